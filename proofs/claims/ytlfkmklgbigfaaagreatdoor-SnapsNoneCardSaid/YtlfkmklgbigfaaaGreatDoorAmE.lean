/-
  A run of the abstract machine is a run of the given machine, in every world that it stands for, for every tape.
  Conditions: those that each theorem names.
-/
import Derived.Test.YtlfkmklgbigfaaaGreatDoorAmD
import Derived.Laws.Sem
import Derived.Laws.Externs
namespace Go.Am
open Go Go.RowKit Forc

/-! ## what a frame stands for -/
def RowP (h : AHeap) (i : Nat) (l : List Value) (t : TypeId) : Prop := ∃ c n, h.get i = some (.cells c n t false false) ∧ rd c n 0 = some l
def FloatOf (tm : T Value) (q : PE) (i : Nat) : Prop := ∃ d v, q.op.dst = some d ∧ tm.get d = some v ∧ floatId q.op.op v = some i

/-- what was put off yields still what it was taken to yield -/
def Same [iF : Forc] (C : Cfg) (ops : Array Oper) (h : AHeap) (tm : T Value) (q : PE) : Prop :=
  ∃ d v b, q.op.dst = some d ∧ tm.get d = some v ∧ wantedA ops tm q.op = some b ∧ (b = false → v = undefA) ∧
    (b = true → q.kind ≠ 2 → quietF q.op.op C.p C.gl tm h = some v) ∧
    (b = true → q.kind = 2 → ∃ i v' h' l t, floatId q.op.op v = some i ∧ operF q.op.op C.p C.gl tm h = some (.value v', h') ∧ floatId q.op.op v' = some h.next ∧ RowP h' h.next l t ∧ RowP h i l t)

theorem rowAt_eq [Atoms] {β : Type} {h : AHeap} {i : Nat} {f : List Value → TypeId → Option β} {y : β} (e : rowAt h i f = some y) : ∃ l t, RowP h i l t ∧ f l t = some y := by
  obtain ⟨c, n, t, opn, ro, hg, e1⟩ := onCells_eq e
  obtain ⟨hc, e2⟩ := ci_else e1
  obtain ⟨l, hl, e3⟩ := ob_eq e2
  simp only [Bool.or_eq_false_iff] at hc
  obtain ⟨h1, h2⟩ := hc
  subst h1; subst h2
  exact ⟨l, t, ⟨c, n, hg, hl⟩, e3⟩
theorem again_spec [Atoms] [iF : Forc] {C : Cfg} {ops : Array Oper} {h : AHeap} {tm : T Value} {q : PE} (e : again C ops h tm q = some true) : Same C ops h tm q := by
  obtain ⟨d, hd, e1⟩ := ob_eq e
  obtain ⟨v, hv, e2⟩ := ob_eq e1
  obtain ⟨b, hb, e3⟩ := ob_eq e2
  refine ⟨d, v, b, hd, hv, hb, ?_, ?_, ?_⟩
  · intro h0
    subst h0
    have e4 : some (veq v undefA) = some true := e3
    exact veq_eq 6 (Option.some.inj e4)
  · intro h0 hk
    subst h0
    rcases ci_some (show ci (Nat.beq q.kind 2) _ _ = some true from e3) with ⟨h1, _⟩ | ⟨_, e4⟩
    · exact absurd (nbeq.1 h1) hk
    · obtain ⟨v', h1, h2⟩ := ob_eq e4
      rw [h1]
      exact congrArg some (veq_eq 6 (Option.some.inj h2)).symm
  · intro h0 hk
    subst h0
    rcases ci_some (show ci (Nat.beq q.kind 2) _ _ = some true from e3) with ⟨_, e4⟩ | ⟨h1, _⟩
    · obtain ⟨i, hi, e5⟩ := ob_eq e4
      obtain ⟨n, h', ho, e6⟩ := op2_eq e5
      cases n with
      | value v' =>
        obtain ⟨i', hi', e7⟩ := ob_eq e6
        obtain ⟨hn, e8⟩ := ci_then e7
        have := nbeq.1 hn; subst this
        obtain ⟨l, t, g1, e9⟩ := rowAt_eq e8
        obtain ⟨l2, t2, g2, e10⟩ := rowAt_eq e9
        have e10 := Option.some.inj e10
        simp only [Bool.and_eq_true, nbeq] at e10
        have := veqs_eq 6 e10.1; subst this
        have := e10.2; subst this
        exact ⟨i, v', h', l, t, hi, ho, hi', g1, g2⟩
      | _ => cases e6
    · exact absurd hk (nbeq_f.1 h1)
theorem allAgain_spec [Atoms] [iF : Forc] {C : Cfg} {ops : Array Oper} {h : AHeap} {tm : T Value} : ∀ {l : List PE}, allAgain C ops h tm l = true → ∀ q ∈ l, Same C ops h tm q
  | [], _, _, hq => by cases hq
  | x :: l, e, q, hq => by
    have e1 : ci (od false (again C ops h tm x)) (allAgain C ops h tm l) false = true := e
    cases ha : again C ops h tm x with
    | none => rw [ha] at e1; cases e1
    | some b =>
      rw [ha] at e1
      cases b with
      | false => cases e1
      | true =>
        rcases List.mem_cons.1 hq with rfl | hq
        · exact again_spec ha
        · exact allAgain_spec e1 q hq

def Pend (done : List PE) (L : List Nat) (t : Nat) : Prop := ∃ q ∈ done, q.idx ∈ L ∧ q.op.dst = some t
def Float (done : List PE) (L : List Nat) (tm : T Value) (i : Nat) : Prop := ∃ q ∈ done, q.idx ∈ L ∧ q.kind = 2 ∧ FloatOf tm q i

/-- a region whose order was drawn: 'done' is carried out for the abstract machine, 'L' is still to come for the model's -/
structure Drw (ops : Array Oper) (done R A : List PE) (L : List Nat) (nt : Nat) (tm : T Value) : Prop where
  plan : Plan ops (done ++ R)
  lin : ∃ L0, Lin ops (L0 ++ L)
  rem : ∀ e ∈ R, e.idx ∈ L
  put : ∀ q ∈ done, q.idx ∈ L → q.kind ≠ 1 ∧ q ∈ A ∧ ∃ d, q.op.dst = some d ∧ d < nt
  inj : ∀ q ∈ done, ∀ q' ∈ done, q.idx ∈ L → q'.idx ∈ L → q.kind = 2 → q'.kind = 2 → ∀ i, FloatOf tm q i → FloatOf tm q' i → q = q'

abbrev XR := Array Oper → List PE → List PE → List PE → List Nat → T Value → Prop
/-- of the frame that runs -/
def XTop [iF : Forc] (C : Cfg) (h : AHeap) : XR := fun ops done _ _ L tm => ∀ q ∈ done, q.idx ∈ L → Same C ops h tm q
/-- of a frame that stands at an operation -/
def XHead : XR := fun _ _ R _ L _ => ∃ e R' L', R = e :: R' ∧ L = e.idx :: L'

def TodoR [Atoms] (r : Rho) (X : XR) (nt : Nat) (tm : T Value) (ct : Array Value) (fl : Nat → Prop) : List AItem → List Item → Prop
  | .reg ops rest :: k, cl => TR r (fun _ => False) nt tm ct ∧ (∀ i, ¬ fl i) ∧ ∃ j ck, cl = .inRegion ops (List.range' j rest.length) :: ck ∧ ops.toList.drop j = rest ∧ plainC k = some ck
  | .draw ops R A :: k, cl => ∃ done L ck, cl = .inRegion ops L :: ck ∧ plainC k = some ck ∧ Drw ops done R A L nt tm ∧ TR r (Pend done L) nt tm ct ∧ (∀ i, fl i ↔ Float done L tm i) ∧ X ops done R A L tm
  | .rangeF l :: k, cl => TR r (fun _ => False) nt tm ct ∧ (∀ i, ¬ fl i) ∧ ∃ pb ck, r l = some pb ∧ cl = .inRangeFunc pb.blk :: ck ∧ plainC k = some ck
  | .endRangeF l :: k, cl => TR r (fun _ => False) nt tm ct ∧ (∀ i, ¬ fl i) ∧ ∃ pb ck, r l = some pb ∧ cl = .endRangeFunc pb.blk :: ck ∧ plainC k = some ck
  | todo, cl => TR r (fun _ => False) nt tm ct ∧ (∀ i, ¬ fl i) ∧ plainC todo = some cl

def PLR [Atoms] (r : Rho) : List PanicEntry → List PanicEntry → Prop
  | [], l => l = []
  | e :: es, l => ∃ c cs, l = c :: cs ∧ cv r e.v = some c.v ∧ c.recovered = e.recovered ∧ c.goexit = e.goexit ∧ PLR r es cs
def ModeR [Atoms] (r : Rho) : FrameMode → FrameMode → Prop
  | .run, m => m = .run
  | .returning, m => m = .returning
  | .panicking ch, m => ∃ cch, m = .panicking cch ∧ PLR r ch cch
def RoundR (r : Rho) : Option Nat → Option Nat → Prop
  | none, c => c = none
  | some l, c => ∃ pb, r l = some pb ∧ c = some pb.blk

structure FR [Atoms] (r : Rho) (X : XR) (fr : AFrame) (cf : Frame) (fl : Nat → Prop) : Prop where
  fn : cf.fn = fr.fn
  kind : cf.kind = fr.kind
  round : RoundR r fr.roundOf cf.roundOf
  mode : ModeR r fr.mode cf.mode
  defers : DLR r fr.defers cf.defers
  run : fr.mode = .run → TodoR r X fr.nt fr.tmps cf.tmps fl fr.todo cf.todo
  off : fr.mode ≠ .run → TR r (fun t => t ∈ offT fr.todo) fr.nt fr.tmps cf.tmps ∧ (∀ i, ¬ fl i) ∧ ∀ d w re sv k, cf.todo ≠ .call d w re sv :: k

def CSR [Atoms] (r : Rho) : List AFrame → List Frame → (Nat → Prop) → Prop
  | [], ccs, fls => ccs = [] ∧ ∀ i, ¬ fls i
  | c :: cs, ccs, fls => ∃ cc ccs', ccs = cc :: ccs' ∧ ∃ f g, FR r XHead c cc f ∧ CSR r cs ccs' g ∧ (∀ i, fls i ↔ f i ∨ g i) ∧ (∀ i, f i → ¬ g i)

/-- all around a frame -/
structure Ctx [Atoms] (gl : Nat) (r : Rho) (h : AHeap) (cs : List AFrame) (ccs : List Frame) (fl fls : Nat → Prop) (w0 w : World) : Prop where
  hr : HR gl r h w0 w
  csr : CSR r cs ccs fls
  f1 : ∀ i, fl i → r i = none ∧ i < h.next ∧ ¬ fls i
  f2 : ∀ i, fls i → r i = none ∧ i < h.next

/-! ## more is told of -/
section
variable {r s : Rho} (h : r.le s)
include h
theorem PLR_mono [Atoms] : ∀ {l c : List PanicEntry}, PLR r l c → PLR s l c
  | [], _, k => k
  | _ :: _, _, ⟨c, cs, e, a, b, d, f⟩ => ⟨c, cs, e, cv_mono h a, b, d, PLR_mono f⟩
theorem ModeR_mono [Atoms] {m c : FrameMode} (k : ModeR r m c) : ModeR s m c := by
  cases m with
  | panicking ch => obtain ⟨cch, e, q⟩ := k; exact ⟨cch, e, PLR_mono h q⟩
  | run => exact k
  | returning => exact k
theorem RoundR_mono {m c : Option Nat} (k : RoundR r m c) : RoundR s m c := by
  cases m with
  | some l => obtain ⟨pb, e, q⟩ := k; exact ⟨pb, h _ _ e, q⟩
  | none => exact k
theorem TodoR_mono [Atoms] {X : XR} {nt : Nat} {tm : T Value} {ct : Array Value} {fl : Nat → Prop} {a : List AItem} {c : List Item} (k : TodoR r X nt tm ct fl a c) : TodoR s X nt tm ct fl a c := by
  cases a with
  | nil => obtain ⟨k1, k2⟩ := k; exact ⟨TR_mono h k1, k2⟩
  | cons i a =>
    cases i with
    | reg ops rest => obtain ⟨k1, k2⟩ := k; exact ⟨TR_mono h k1, k2⟩
    | draw ops R A => obtain ⟨done, L, ck, a1, a2, a3, a4, a5⟩ := k; exact ⟨done, L, ck, a1, a2, a3, TR_mono h a4, a5⟩
    | rangeF l => obtain ⟨k1, k2, pb, ck, k3, k4⟩ := k; exact ⟨TR_mono h k1, k2, pb, ck, h _ _ k3, k4⟩
    | endRangeF l => obtain ⟨k1, k2, pb, ck, k3, k4⟩ := k; exact ⟨TR_mono h k1, k2, pb, ck, h _ _ k3, k4⟩
    | code c => obtain ⟨k1, k2⟩ := k; exact ⟨TR_mono h k1, k2⟩
    | inBlock c => obtain ⟨k1, k2⟩ := k; exact ⟨TR_mono h k1, k2⟩
    | inLoop c => obtain ⟨k1, k2⟩ := k; exact ⟨TR_mono h k1, k2⟩
    | inScope c => obtain ⟨k1, k2⟩ := k; exact ⟨TR_mono h k1, k2⟩
    | beginRound => obtain ⟨k1, k2⟩ := k; exact ⟨TR_mono h k1, k2⟩
theorem FR_mono [Atoms] {X : XR} {fr : AFrame} {cf : Frame} {fl : Nat → Prop} (k : FR r X fr cf fl) : FR s X fr cf fl where
  fn := k.fn
  kind := k.kind
  round := RoundR_mono h k.round
  mode := ModeR_mono h k.mode
  defers := DLR_mono h k.defers
  run := fun hm => TodoR_mono h (k.run hm)
  off := fun hm => ⟨TR_mono h (k.off hm).1, (k.off hm).2⟩
theorem CSR_mono [Atoms] : ∀ {cs : List AFrame} {ccs : List Frame} {fls : Nat → Prop}, CSR r cs ccs fls → CSR s cs ccs fls
  | [], _, _, k => k
  | _ :: _, _, _, ⟨cc, ccs', e, f, g, a, b, c, d⟩ => ⟨cc, ccs', e, f, g, FR_mono h a, CSR_mono b, c, d⟩
end

theorem Ctx.step [Atoms] {gl : Nat} {r r' : Rho} {h h' : AHeap} {cs : List AFrame} {ccs : List Frame} {fl fls : Nat → Prop} {w0 w w' : World} (K : Ctx gl r h cs ccs fl fls w0 w)
    (hx : Ext h.next r r') (hn : h.next ≤ h'.next) (hr : HR gl r' h' w0 w') : Ctx gl r' h' cs ccs fl fls w0 w' where
  hr := hr
  csr := CSR_mono hx.le K.csr
  f1 := fun i hi => by obtain ⟨a, b, c⟩ := K.f1 i hi; exact ⟨by rw [hx.old i b]; exact a, by omega, c⟩
  f2 := fun i hi => by obtain ⟨a, b⟩ := K.f2 i hi; exact ⟨by rw [hx.old i b]; exact a, by omega⟩

/-! ## operands -/
section
variable {gl : Nat} {r : Rho} {h : AHeap} {w0 w : World} {tm : T Value} {nt : Nat} {pend : Nat → Prop}

theorem eval_of [Atoms] (H : HR gl r h w0 w) {cf : Frame} (ht : TR r pend nt tm cf.tmps) {x : Operand} {u : Value} (hp : ∀ t, x = .tmp t → ¬ pend t) (e : evalA tm gl x = some u) : cv r u = some (cf.eval x) := by
  cases x with
  | tmp t =>
    obtain ⟨v', h1, h2⟩ := ht.2 t u (hp t rfl) e
    rw [h1]
    simp [Frame.eval, Array.getD_eq_getD_getElem?, h2]
  | const v =>
    obtain ⟨hl, e1⟩ := ci_then (show ci (lit v) (some v) none = some u from e)
    cases e1
    exact lit_spec hl
  | global g =>
    obtain ⟨hg, e1⟩ := ci_then (show ci (Nat.blt g gl) (some (.pointer (some ⟨g, 0, none⟩))) none = some u from e)
    cases e1
    obtain ⟨cap, hr⟩ := H.glob g (nblt.1 hg)
    simp [cv, ca, hr, Frame.eval]
  | func f =>
    cases e
    simp [cv, cvs, cfn, Frame.eval]
theorem ev_of [Atoms] (H : HR gl r h w0 w) {cf : Frame} (ht : TR r pend nt tm cf.tmps) {l : List Operand} (hp : ∀ t, Operand.tmp t ∈ l → ¬ pend t) : EV r tm gl cf.eval l :=
  fun x u hx e => eval_of H ht (fun t et => hp t (by rw [← et]; exact hx)) e

theorem TR_put [Atoms] {ct : Array Value} (ht : TR r pend nt tm ct) {d : Option Tmp} {v v' : Value} (hv : cv r v = some v') : TR r pend nt (putA nt tm d v) (match d with | some d => ct.setIfInBounds d v' | none => ct) := by
  cases d with
  | none => exact ht
  | some d =>
    refine ⟨by simpa using ht.1, ?_⟩
    intro t u hp hu
    unfold putA at hu
    cases hb : Nat.blt d nt with
    | true =>
      simp only [hb, ci_true] at hu
      rw [T.get_set] at hu
      by_cases e : t = d
      · subst e
        simp at hu; subst hu
        have := nblt.1 hb
        exact ⟨v', hv, by simp [ht.1, this]⟩
      · simp only [e, if_false] at hu
        obtain ⟨u', a, b⟩ := ht.2 t u hp hu
        exact ⟨u', a, by rw [Array.getElem?_setIfInBounds, if_neg (fun h => e h.symm)]; exact b⟩
    | false =>
      simp only [hb, ci_false] at hu
      have hge := nblt_f.1 hb
      obtain ⟨u', a, b⟩ := ht.2 t u hp hu
      refine ⟨u', a, ?_⟩
      have : ct.setIfInBounds d v' = ct := by simp [Array.setIfInBounds, ht.1, Nat.not_lt.2 hge]
      simp only [this]; exact b
end
end Go.Am

namespace Go.Am
open Go Go.RowKit Forc

section
variable {P : Program} {gl : Nat} {r : Rho} {h : AHeap} {w0 w : World}

/-! ## a row that is made late -/
theorem rd_get {c : T Value} : ∀ {n i : Nat} {l : List Value}, rd c n i = some l → ∀ k, k < n → l[k]? = c.get (i + k)
  | 0, _, _, _, k, hk => by omega
  | n + 1, i, _, e, k, hk => by
    obtain ⟨v, hv, e1⟩ := ob_eq e
    obtain ⟨l, hl, e2⟩ := ob_eq e1
    cases e2
    cases k with
    | zero => simpa using hv.symm
    | succ k =>
      have := rd_get hl k (by omega)
      rw [List.getElem?_cons_succ, this]
      congr 1; omega

theorem HR.late [Atoms] (H : HR gl r h w0 w) {i n : Nat} {t : TypeId} {c : T Value} {l l' : List Value} (hr : r i = none) (hg : h.get i = some (.cells c n t false false)) (hl : rd c n 0 = some l) (hc : cvs r l = some l') :
    HR gl (r.ext i ⟨w.heap.size, 0, l'.length⟩) h w0 (w.alloc (.cells ⟨l'⟩ t)) := by
  have hle : r.le (r.ext i ⟨w.heap.size, 0, l'.length⟩) := Rho.le_ext hr
  have hi : i < h.next := by
    rcases Nat.lt_or_ge i h.next with h1 | h1
    · exact h1
    · have := H.new i h1; rw [hg] at this; cases this
  have hlen : l'.length = n := by rw [cvs_length hc, rd_len hl]
  have lt : ∀ {j : Nat} {p : PB}, r j = some p → p.blk < w.heap.size := by
    intro j p hj
    obtain ⟨o, ho, _⟩ := H.obj j p hj
    rcases Nat.lt_or_ge p.blk w.heap.size with h1 | h1
    · exact h1
    · simp [Array.getElem?_eq_none h1] at ho
  have old : ∀ {k : Nat}, k < w.heap.size → (w.alloc (.cells ⟨l'⟩ t)).heap[k]? = w.heap[k]? := by
    intro k hk
    show (w.heap.push _)[k]? = w.heap[k]?
    simp [Array.getElem?_push, Nat.ne_of_lt hk]
  have cases_ : ∀ {j : Nat} {p : PB}, r.ext i ⟨w.heap.size, 0, l'.length⟩ j = some p → (j = i ∧ p = ⟨w.heap.size, 0, l'.length⟩) ∨ (j ≠ i ∧ r j = some p) := by
    intro j p hj
    unfold Rho.ext at hj
    by_cases e : j = i
    · rw [if_pos e] at hj; exact .inl ⟨e, (Option.some.inj hj).symm⟩
    · rw [if_neg e] at hj; exact .inr ⟨e, hj⟩
  refine ⟨?_, ?_, ?_, H.new, ?_, ?_, ?_, H.ask, H.wf⟩
  · intro j p hj
    rcases cases_ hj with ⟨e1, e2⟩ | ⟨_, hj⟩
    · subst e1; subst e2
      refine ⟨.cells ⟨l'⟩ t, ?_, ?_⟩
      · show (w.heap.push _)[w.heap.size]? = _
        simp
      · intro ao hao
        rw [hg] at hao; cases hao
        refine ⟨⟨l'⟩, (0, 0), rfl, ?_⟩
        refine ⟨by simp, by show n ≤ l'.length; omega, fun _ => ⟨hlen.symm, rfl⟩, ?_, fun _ => .inl rfl⟩
        intro k v hk
        have hkn := H.wf _ _ _ _ _ _ _ _ hg hk
        have := rd_get hl k hkn
        rw [Nat.zero_add, hk] at this
        obtain ⟨v', h1, h2⟩ := cvs_get hc this
        exact ⟨hkn, v', cv_mono hle h1, by simpa using h2⟩
    · obtain ⟨o, ho, hh⟩ := H.obj j p hj
      exact ⟨o, by rw [old (lt hj)]; exact ho, fun ao hao => OR_mono hle (hh ao hao)⟩
  · intro x y p q a b hx hy gx gy lx ly e
    rcases cases_ hx with ⟨e1, e2⟩ | ⟨_, hx⟩
    · rcases cases_ hy with ⟨e3, _⟩ | ⟨_, hy⟩
      · rw [e1, e3]
      · have := lt hy
        rw [← e, e2] at this
        exact absurd this (Nat.lt_irrefl _)
    · rcases cases_ hy with ⟨e3, e4⟩ | ⟨_, hy⟩
      · have := lt hx
        rw [e, e4] at this
        exact absurd this (Nat.lt_irrefl _)
      · exact H.inj x y p q a b hx hy gx gy lx ly e
  · intro j p hj
    rcases cases_ hj with ⟨e1, _⟩ | ⟨_, hj⟩
    · rw [e1]; exact hi
    · exact H.bnd j p hj
  · intro j p a hj ga la ra
    rcases cases_ hj with ⟨_, e2⟩ | ⟨_, hj⟩
    · rw [e2]; exact H.below.size
    · exact H.hi j p a hj ga la ra
  · intro g hgl
    obtain ⟨cap, hc⟩ := H.glob g hgl
    exact ⟨cap, hle _ _ hc⟩
  · exact H.below.trans ⟨rfl, rfl, rfl, by simp, fun k hk => old (by have := H.below.size; omega)⟩

theorem float_of [Atoms] [iF : Forc] (_H : HR gl r h w0 w) {o : Oper} {tm : T Value} {ρ : Operand → Value} (hk : peKind o.op = 2) (hev : EV r tm gl ρ o.op.operands.toList) {v : Value} {h' : AHeap}
    (q : operF o.op (AP.of P) gl tm h = some (.value v, h')) :
    ∃ l l' t v', h' = newRowA h t l false ∧ cvs r l = some l' ∧ (execOp ρ o).run P w = .ok (.value v') (w.alloc (.cells ⟨l'⟩ t)) ∧
      ∀ (s : Rho) (i : Nat) (u : Value) (n : Nat), s i = some ⟨w.heap.size, 0, n⟩ → floatId o.op u = some i → cv s u = some v' := by
  obtain ⟨dst, op, type, pos, after, guard⟩ := o
  simp only at hev q hk
  have ptr : ∀ {op : Op}, (∀ t len ps, op ≠ .buildSlice t len ps) → ∀ (s : Rho) (i : Nat) (u : Value) (n : Nat), s i = some ⟨w.heap.size, 0, n⟩ → floatId op u = some i → cv s u = some (.pointer (some ⟨w.heap.size, 0, none⟩)) := by
    intro op hop s i u n hs hf
    have hf2 : (match (generalizing := false) u with
      | .pointer a => ob a fun a => spotless a fun b o => ci (Nat.beq o 0) (some b) none
      | _ => none) = some i := by
      cases op <;> first | exact hf | exact absurd rfl (hop _ _ _)
    cases u with
    | pointer a =>
      obtain ⟨a, ea, e1⟩ := ob_eq (show ob a _ = some i from hf2)
      subst ea
      obtain ⟨hs0, e2⟩ := spotless_eq e1
      obtain ⟨h0, e3⟩ := ci_then e2
      obtain ⟨b, o, sp⟩ := a
      have := nbeq.1 h0
      simp only at this hs0
      subst this; subst hs0
      cases e3
      simp [cv, ca, hs]
    | _ => cases hf2
  cases op with
  | alloc e =>
    obtain ⟨z, hz, q1⟩ := ob_eq q
    obtain ⟨_, q2⟩ := ci_then q1
    obtain ⟨_, q3⟩ := ci_then q2
    cases q3
    obtain ⟨j, hj, hjz, hlit⟩ := zero_spec hz
    refine ⟨_, _, e, .pointer (some ⟨w.heap.size, 0, none⟩), rfl, cv_cells (lit_spec hlit), ?_, ptr (fun _ _ _ h => by cases h)⟩
    simp only [execOp, Instr.alloc, newVar, newRow, Sem.run_bind, run_zeroValue' w hj hjz, run_newObj, World.alloc_eq, Result.andThen_ok, Sem.run_pure]
  | box e x =>
    obtain ⟨u, hu, q1⟩ := ob_eq q
    have hx := hev x u (by simp [Op.operands]) hu
    obtain ⟨_, q3⟩ := ci_then q1
    cases q3
    refine ⟨_, _, e, .pointer (some ⟨w.heap.size, 0, none⟩), rfl, cv_cells hx, ?_, ptr (fun _ _ _ h => by cases h)⟩
    simp only [execOp, Instr.box, newVar, newRow, Sem.run_bind, run_newObj, World.alloc_eq, Result.andThen_ok, Sem.run_pure]
  | buildSlice t len parts =>
    obtain ⟨ps, hps, q1⟩ := ob_eq q
    obtain ⟨v1, q2, e0⟩ := retW_eq q1
    cases e0
    obtain ⟨hp1, hv1⟩ := evalP_of (r := r) (ρ := ρ) (fun x u hx => hev x u (by simp [Op.operands] at hx ⊢; exact hx)) hps
    obtain ⟨et, h1, e1⟩ := ob_eq q2
    obtain ⟨n, hn, e2⟩ := ob_eq e1
    obtain ⟨j, hj, ej⟩ := size_spec hn
    subst ej
    obtain ⟨z, hz, e3⟩ := ob_eq e2
    obtain ⟨i, hi, hiz, hl⟩ := zero_spec hz
    obtain ⟨hc, e4⟩ := ci_then e3
    obtain ⟨cs, hcs, e5⟩ := ob_eq e4
    obtain ⟨hna, e6⟩ := ci_then e5
    cases e6
    simp only [Bool.and_eq_true, nbeq, nble, nblt, lenL_eq] at hc
    obtain ⟨⟨hc1, hc2⟩, hc3⟩ := hc
    have hd := sliceE_eq h1
    have hzc : cvs r (cellsOf z) = some z.cells.toList := cv_cells (lit_spec hl)
    have hzs : z.cells.size = j.size := by rw [← Array.length_toList, cvs_length hzc]; exact hc1
    obtain ⟨out', g2, g3⟩ := fill_of ps _ _ (parts.toList.map fun q => (q.1, ρ q.2)) _ hcs (timesL_cvs hzc len) hp1 hv1
    have hlen : len < capInf := by
      have h2 : len * j.size ≤ 65536 := hc2
      have h3 : len * 1 ≤ len * j.size := Nat.mul_le_mul_left _ hc3
      unfold capInf; omega
    refine ⟨_, _, et, .slice (some ⟨w.heap.size, 0, none⟩) len len, rfl, g2, ?_, ?_⟩
    · have hparts : (parts.map fun (i, x) => (i, ρ x)) = ⟨parts.toList.map fun q => (q.1, ρ q.2)⟩ := by
        apply Array.ext'; simp
      simp only [execOp]
      rw [hparts]
      refine lift_run ?_
      unfold Instr.buildSlice
      have h2 : len * j.size ≤ 65536 := hc2
      have ht := times_range z.cells (by omega) len
      rw [hzs] at ht
      simp only [Sem.run_bind, run_underlying' w hd, Result.andThen_ok, run_sizeOf' w hj]
      rw [if_neg (by omega)]
      have g3' : Instr.fill (fun i => some (i * j.size, j.size)) ⟨timesL z.cells.toList len⟩ (parts.toList.map fun q => (q.1, ρ q.2)) = some ⟨out'⟩ := g3
      by_cases h0 : len * j.size = 0
      · have hl0 : len = 0 := by
          rcases Nat.mul_eq_zero.1 h0 with h | h
          · exact h
          · omega
        subst hl0
        rw [if_pos h0]
        simp only [Sem.run_bind, Sem.run_pure, Result.andThen_ok]
        have : (Array.map (fun x => (#[] : Array Value)[x % (#[] : Array Value).size]!) (Array.range (0 * j.size))) = ⟨timesL z.cells.toList 0⟩ := by
          simp [timesL]
        rw [this, g3']
        simp only [newRow, Sem.run_bind, run_newObj, Result.andThen_ok, Sem.run_pure, World.alloc_eq]
      · rw [if_neg h0]
        simp only [Sem.run_bind, run_zeroValue' w hi hiz, Sem.run_pure, Result.andThen_ok]
        rw [hzs, ht, g3']
        simp only [newRow, Sem.run_bind, run_newObj, Result.andThen_ok, Sem.run_pure, World.alloc_eq]
    · intro s i u n hs hf
      cases u with
      | slice a l c =>
        obtain ⟨a, ea, e1⟩ := ob_eq (show ob a _ = some i from hf)
        subst ea
        obtain ⟨hs0, e2⟩ := spotless_eq e1
        obtain ⟨h0, e3⟩ := ci_then e2
        obtain ⟨b, o, sp⟩ := a
        simp only [Bool.and_eq_true, nbeq] at h0 hs0
        obtain ⟨⟨h01, h02⟩, h03⟩ := h0
        subst h01; subst h02; subst h03; subst hs0
        cases e3
        exact cv_mk_exact (by simp [ca, hs]) hlen
      | _ => cases hf
  | call c =>
    obtain ⟨callee, args, argTypes⟩ := c
    cases callee with
    | builtin b => cases b <;> cases hk
    | _ => cases hk
  | _ => cases hk

/-! ## single steps of the model's machine -/
section
variable {cf : Frame} {cs : List Frame} {ops : Array Oper} {i : Nat} {L : List Nat} {ck : List Item} {o : Oper}

theorem step_skip (ht : cf.todo = .inRegion ops (i :: L) :: ck) (hm : cf.mode = .run) (ho : ops[i]? = some o) (hw : Region.wanted o (yielded ops cf.tmps) = false) :
    step P (lone cf cs w) = .next (lone (cf.finish undef) cs w) :=
  step_lone_go (by simp [stepG, stepG.exec, ht, hm, ho, hw])
theorem bare_oper (ht : cf.todo = .inRegion ops (i :: L) :: ck) (hm : cf.mode = .run) (ho : ops[i]? = some o) (hw : Region.wanted o (yielded ops cf.tmps) = true) (hd : cf.roundOf = none ∨ ∀ c, o.op ≠ .defer c) :
    (stepG P true { frame := cf, callers := cs, status := .running, dying := none } w).bare = (stepG.apply P true cf cs none (execOp cf.eval o) w).bare := by
  have e1 : stepG P true { frame := cf, callers := cs, status := .running, dying := none } w = stepG.oper P true cf cs none w := by
    simp [stepG, stepG.exec, ht, hm, ho, hw]
  have hop : cf.oper? = some o := by simp [Frame.oper?, ht, ho]
  rw [e1]
  unfold stepG.oper
  rw [hop]
  simp only
  rcases hd with hd | hd
  · rw [hd]
  · cases hro : cf.roundOf with
    | none => rfl
    | some l =>
      cases hoo : o.op <;> first | rfl | exact absurd hoo (hd _)
theorem apply_value {s : Sem Next} {v : Value} {w' : World} (hr : s.run P w = .ok (.value v) w') :
    (stepG.apply P true cf cs none s w).bare = .go { frame := cf.finish v, callers := cs, status := .running, dying := none } w' := by
  simp [stepG.apply, Sem.runT_eq, hr, GStep.bare_after]
theorem apply_skip {s : Sem Next} {w' : World} (hr : s.run P w = .ok .skip w') :
    (stepG.apply P true cf cs none s w).bare = .go { frame := cf.finish undef, callers := cs, status := .running, dying := none } w' := by
  simp [stepG.apply, Sem.runT_eq, hr, GStep.bare_after]
end

end
end Go.Am

namespace Go.Am
open Go Go.RowKit Forc

section
variable {ops : Array Oper} {done R A : List PE} {j : Nat} {L : List Nat} {nt : Nat} {tm : T Value}

theorem split_two {l : List PE} {x y : PE} (hx : x ∈ l) (hy : y ∈ l) (hne : x ≠ y) : (∃ A B, l = A ++ x :: B ∧ y ∈ B) ∨ (∃ A B, l = A ++ y :: B ∧ x ∈ B) := by
  induction l with
  | nil => cases hx
  | cons z l ih =>
    rcases List.mem_cons.1 hx with e1 | hx
    · rcases List.mem_cons.1 hy with e2 | hy
      · exact absurd (e1.trans e2.symm) hne
      · exact .inl ⟨[], l, by rw [e1]; rfl, hy⟩
    · rcases List.mem_cons.1 hy with e2 | hy
      · exact .inr ⟨[], l, by rw [e2]; rfl, hx⟩
      · rcases ih hx hy with ⟨A, B, e, h⟩ | ⟨A, B, e, h⟩
        · exact .inl ⟨z :: A, B, by rw [e]; rfl, h⟩
        · exact .inr ⟨z :: A, B, by rw [e]; rfl, h⟩

theorem Drw.noPred [Atoms] (D : Drw ops done R A (j :: L) nt tm) {y : PE} (hy : y ∈ done ++ R) (hj : y.idx = j) {i : Nat} (hi : i ∈ j :: L) : i ∉ y.preds := by
  intro hp
  obtain ⟨L0, hl⟩ := D.lin
  obtain ⟨ho, _, hpr⟩ := D.plan.entry hy
  have hanc := hpr _ hp
  rw [hj] at hanc
  have := hl.anc hanc (A := L0) (B := L) rfl
  have hn := hl.nodup
  rw [List.nodup_append] at hn
  exact hn.2.2 i this i hi rfl

/-- what was put off and what comes next are strangers -/
theorem Drw.apart [Atoms] (D : Drw ops done R A (j :: L) nt tm) {x y : PE} (hx : x ∈ done) (hxL : x.idx ∈ j :: L) (hj : y.idx = j) (hne : x ≠ y) (hy : y ∈ done ∨ ∃ T, R = y :: T) :
    dstIn x.op.dst (readsOf ops.toList y.op) = false ∧ sameDst y.op.dst x.op.dst = false := by
  have hyl : y ∈ done ++ R := by
    rcases hy with h | ⟨T, h⟩
    · exact List.mem_append_left _ h
    · exact List.mem_append_right _ (by rw [h]; simp)
  have hxk : ¬ x.kind = 1 := (D.put x hx hxL).1
  have hnp : memN x.idx y.preds = false := by
    cases hm : memN x.idx y.preds with
    | false => rfl
    | true => exact absurd (memN_iff.1 hm) (D.noPred hyl hj hxL)
  have hxk' : Nat.beq x.kind 1 = false := nbeq_f.2 hxk
  have before : (∃ A B, done ++ R = A ++ x :: B ∧ y ∈ B) → dstIn x.op.dst (readsOf ops.toList y.op) = false ∧ sameDst y.op.dst x.op.dst = false := by
    rintro ⟨A, B, e, h⟩
    have hp := D.plan.pair e h
    simp only [pairOk, Bool.and_eq_true, hxk', hnp, Bool.false_or, Bool.or_false, Bool.not_eq_true'] at hp
    refine ⟨hp.1, ?_⟩
    rcases ci_some (a := some ()) (b := some ()) (x := ()) (c := Nat.beq y.kind 1) (by cases Nat.beq y.kind 1 <;> rfl) with ⟨h1, _⟩ | ⟨h1, _⟩
    · have h2 := hp.2
      rw [h1, ci_true] at h2
      simp only [Bool.not_eq_true', Bool.or_eq_false_iff] at h2
      exact h2.2
    · have h2 := hp.2
      rw [h1, ci_false] at h2
      simp only [Bool.and_eq_true, Bool.not_eq_true'] at h2
      exact h2.1
  rcases hy with hy | ⟨T, hT⟩
  · rcases split_two (List.mem_append_left R hx) (List.mem_append_left R hy) hne with h | ⟨A, B, e, h⟩
    · exact before h
    · have hp := D.plan.pair e h
      have hyk : ¬ y.kind = 1 := (D.put y hy (by rw [hj]; simp)).1
      have hyk' : Nat.beq y.kind 1 = false := nbeq_f.2 hyk
      simp only [pairOk, Bool.and_eq_true, hxk', hyk', ci_false, Bool.false_or, Bool.not_eq_true'] at hp
      refine ⟨hp.2.2, ?_⟩
      have := hp.2.1
      cases hs : sameDst y.op.dst x.op.dst with
      | false => rfl
      | true =>
        obtain ⟨t, h1, h2⟩ := sameDst_iff.1 hs
        rw [sameDst_iff.2 ⟨t, h2, h1⟩] at this
        cases this
  · obtain ⟨A, B, e⟩ := List.append_of_mem hx
    exact before ⟨A, B ++ R, by rw [e]; simp, List.mem_append_right _ (by rw [hT]; simp)⟩

theorem Drw.self [Atoms] (D : Drw ops done R A (j :: L) nt tm) {y : PE} (hy : y ∈ done) (hyL : y.idx ∈ j :: L) : dstIn y.op.dst (readsOf ops.toList y.op) = false := by
  rcases D.plan.self (List.mem_append_left R hy) with h | h
  · exact absurd h (D.put y hy hyL).1
  · exact h

/-- nothing that it reads is put off -/
theorem Drw.sees [Atoms] (D : Drw ops done R A (j :: L) nt tm) {y : PE} (hj : y.idx = j) (hy : y ∈ done ∨ ∃ T, R = y :: T) {t : Nat} (ht : t ∈ readsOf ops.toList y.op) : ¬ Pend done (j :: L) t := by
  rintro ⟨x, hx, hxL, hd⟩
  have hin : dstIn x.op.dst (readsOf ops.toList y.op) = true := dstIn_iff.2 ⟨t, hd, ht⟩
  rcases Classical.em (x = y) with e | e
  · subst e
    rcases hy with hy | ⟨T, hT⟩
    · rw [D.self hy hxL] at hin; cases hin
    · -- it would be twice in the plan
      have hn := D.plan.nodup
      rw [List.map_append, List.nodup_append] at hn
      exact hn.2.2 _ (List.mem_map.2 ⟨x, hx, rfl⟩) _ (List.mem_map.2 ⟨x, by rw [hT]; simp, rfl⟩) rfl
  · rw [(D.apart hx hxL hj e hy).1] at hin; cases hin

/-- which comes first -/
theorem Drw.next [Atoms] (D : Drw ops done R A (j :: L) nt tm) (hR : R = [] ∨ ∃ e T, R = e :: T ∧ e.kind = 1) : (∃ q ∈ done, q.idx = j) ∨ ∃ e T, R = e :: T ∧ e.idx = j := by
  obtain ⟨L0, hl⟩ := D.lin
  have hlt : j < ops.size := hl.in_ j (by simp)
  obtain ⟨y, hy, hyj⟩ := D.plan.cover hlt
  rcases List.mem_append.1 hy with h | h
  · exact .inl ⟨y, h, hyj⟩
  · rcases hR with e0 | ⟨e, T, eR, hk⟩
    · rw [e0] at h; cases h
    · rw [eR] at h
      rcases List.mem_cons.1 h with e1 | h
      · exact .inr ⟨e, T, eR, by rw [← e1]; exact hyj⟩
      · exfalso
        have hf := D.plan.first (A := done) (B := T) (x := e) (by rw [eR]) hk
        obtain ⟨p, hp, z, hz, hzi⟩ := s1_spec hf y h
        have hzL : z.idx ∈ j :: L := D.rem z (by rw [eR]; exact hz)
        exact D.noPred hy hyj hzL (by rw [hzi]; exact hp)

theorem Drw.tail [Atoms] (D : Drw ops done R A (j :: L) nt tm) (hq : ∃ q ∈ done, q.idx = j) : Drw ops done R A L nt tm where
  plan := D.plan
  lin := by obtain ⟨L0, hl⟩ := D.lin; exact ⟨L0 ++ [j], by rw [List.append_assoc]; exact hl⟩
  rem := fun e he => by
    obtain ⟨q, hq, hj⟩ := hq
    rcases List.mem_cons.1 (D.rem e he) with h | h
    · exfalso
      have hn := D.plan.nodup
      rw [List.map_append, List.nodup_append] at hn
      exact hn.2.2 _ (List.mem_map.2 ⟨q, hq, rfl⟩) _ (List.mem_map.2 ⟨e, he, rfl⟩) (by rw [hj, h])
    · exact h
  put := fun q hq hL => D.put q hq (List.mem_cons_of_mem _ hL)
  inj := fun q hq q' hq' h1 h2 => D.inj q hq q' hq' (List.mem_cons_of_mem _ h1) (List.mem_cons_of_mem _ h2)

theorem Drw.headOut (D : Drw ops done R A (j :: L) nt tm) : j ∉ L := by
  obtain ⟨L0, hl⟩ := D.lin
  have hn := hl.nodup
  rw [List.nodup_append] at hn
  exact (List.nodup_cons.1 hn.2.1).1
end

section
variable {P : Program} {C : Cfg} {r : Rho} {h : AHeap} {w0 w : World} {ops : Array Oper} {done R A : List PE} {j : Nat} {L : List Nat} {nt : Nat} {tm : T Value}

/-- one of those that were put off is carried out -/
theorem exec1 [Atoms] [iF : Forc] (hC : C.p = AP.of P) (D : Drw ops done R A (j :: L) nt tm) (hq : ∃ q ∈ done, q.idx = j) {cf : Frame} {ck : List Item} (ht : TR r (Pend done (j :: L)) nt tm cf.tmps)
    (hS : XTop C h ops done R A (j :: L) tm) (H : HR C.gl r h w0 w) (hfl : ∀ i, Float done (j :: L) tm i → r i = none) (htodo : cf.todo = .inRegion ops (j :: L) :: ck) (hmode : cf.mode = .run) (cs : List Frame) :
    ∃ r' w' v, step P (lone cf cs w) = .next (lone (cf.finish v) cs w') ∧ r.le r' ∧ (∀ i, ¬ Float done (j :: L) tm i ∨ Float done L tm i → r' i = r i) ∧ HR C.gl r' h w0 w' ∧
      TR r' (Pend done L) nt tm (cf.finish v).tmps := by
  obtain ⟨q, hqd, hqj⟩ := hq
  obtain ⟨ho, hkind, _⟩ := D.plan.entry (List.mem_append_left R hqd)
  rw [hqj] at ho
  have hqL : q.idx ∈ j :: L := by rw [hqj]; simp
  obtain ⟨d, v, b, hd, hv, hb, s0, s1', s2⟩ := hS q hqd hqL
  have hdn : d < nt := by
    obtain ⟨d2, h1, h2⟩ := (D.put q hqd hqL).2.2
    rw [hd] at h1; cases h1; exact h2
  have hw : Region.wanted q.op (yielded ops cf.tmps) = b := by
    refine wanted_of ht ?_ hb
    intro j2 w2 g d2 hg h1 h2
    exact D.sees hqj (.inl hqd) (reads_guard hg h1 h2)
  have hev : EV r tm C.gl cf.eval q.op.op.operands.toList := ev_of H ht (fun t ht2 => D.sees hqj (.inl hqd) (reads_op ht2))
  -- the temporaries, once it is done
  have fin : ∀ {r' : Rho} {v' : Value}, r.le r' → cv r' v = some v' → TR r' (Pend done L) nt tm (cf.finish v').tmps := by
    intro r' v' hle hcv
    have e1 : (cf.finish v').tmps = cf.tmps.setIfInBounds d v' := by
      simp [Frame.finish, htodo, ho, hd]
    rw [e1]
    refine ⟨by simpa using ht.1, ?_⟩
    intro t u hp hu
    by_cases et : t = d
    · subst et
      rw [hv] at hu; cases hu
      exact ⟨v', hcv, by simp [ht.1, hdn]⟩
    · have hp2 : ¬ Pend done (j :: L) t := by
        rintro ⟨x, hx, hxL, hxd⟩
        rcases List.mem_cons.1 hxL with e | hxL
        · have : x = q := D.plan.inj (List.mem_append_left R hx) (List.mem_append_left R hqd) (by rw [e, hqj])
          rw [this, hd] at hxd
          exact et (Option.some.inj hxd).symm
        · exact hp ⟨x, hx, hxL, hxd⟩
      obtain ⟨u', a, c⟩ := ht.2 t u hp2 hu
      exact ⟨u', cv_mono hle a, by rw [Array.getElem?_setIfInBounds, if_neg (fun h => et h.symm)]; exact c⟩
  cases b with
  | false =>
    have := s0 rfl
    refine ⟨r, w, undef, step_skip htodo hmode ho hw, r.le_refl, fun _ _ => rfl, H, fin r.le_refl ?_⟩
    rw [this]; simp [undefA, undef, cv, cvs]
  | true =>
    have hnd : ∀ c, q.op.op ≠ .defer c := by
      intro c hc
      have hk := (D.put q hqd hqL).1
      rw [hkind, hc] at hk
      exact hk rfl
    by_cases hk : q.kind = 2
    · -- a row
      obtain ⟨i, v', h', l, t, f1, f2, f3, f4, f5⟩ := s2 rfl hk
      obtain ⟨l2, l2', t2, cvv, g1, g2, g3, g4⟩ := float_of (P := P) H (by rw [← hkind]; exact hk) hev (by rw [← hC]; exact f2)
      have hfi : Float done (j :: L) tm i := ⟨q, hqd, hqL, hk, d, v, hd, hv, f1⟩
      have hri := hfl i hfi
      -- its cells
      obtain ⟨c1, n1, hg1, hr1⟩ := f4
      rw [g1] at hg1
      unfold newRowA at hg1
      rw [get_push] at hg1
      simp only [if_true, Option.some.injEq, AObj.cells.injEq] at hg1
      obtain ⟨e1, e2, e3, _, _⟩ := hg1
      subst e1; subst e2; subst e3
      have hl2 : l = l2 := by
        apply List.ext_getElem?
        intro k
        rcases Nat.lt_or_ge k l2.length with hk | hk
        · rw [rd_get hr1 k (by rw [lenL_eq]; exact hk), Nat.zero_add, T.get_ofList]
        · have := rd_len hr1
          rw [lenL_eq] at this
          rw [List.getElem?_eq_none hk, List.getElem?_eq_none (by omega)]
      subst hl2
      obtain ⟨c, n, hg, hrd⟩ := f5
      have H2 := H.late hri hg hrd g2
      refine ⟨_, _, cvv, ?_, Rho.le_ext hri, ?_, H2, fin (Rho.le_ext hri) (g4 _ i v _ (Rho.ext_same _ _ _) f1)⟩
      · exact step_lone_go (by rw [bare_oper htodo hmode ho hw (.inr hnd), apply_value g3])
      · intro k hk2
        unfold Rho.ext
        rw [if_neg]
        intro ek
        subst ek
        rcases hk2 with hk2 | hk2
        · exact hk2 hfi
        · obtain ⟨x, hx, hxL, hxk, hxf⟩ := hk2
          have := D.inj q hqd x hx hqL (List.mem_cons_of_mem _ hxL) hk hxk _ ⟨d, v, hd, hv, f1⟩ hxf
          rw [← this, hqj] at hxL
          exact D.headOut hxL
    · have hqf := s1' rfl hk
      rw [hC] at hqf
      obtain ⟨v', h1, h2⟩ := quiet_sound (P := P) H q.op hev hqf
      exact ⟨r, w, v', step_lone_go (by rw [bare_oper htodo hmode ho hw (.inr hnd), apply_value h2]), r.le_refl, fun _ _ => rfl, H, fin r.le_refl h1⟩

/-- all that was put off and comes ahead is carried out -/
theorem catchUp [Atoms] [iF : Forc] (hC : C.p = AP.of P) {cs : List Frame} {ck : List Item} (hR : R = [] ∨ ∃ e T, R = e :: T ∧ e.kind = 1) : ∀ (L : List Nat) (r : Rho) (w : World) (cf : Frame), Drw ops done R A L nt tm → TR r (Pend done L) nt tm cf.tmps → XTop C h ops done R A L tm →
    HR C.gl r h w0 w → (∀ i, Float done L tm i → r i = none) → cf.todo = .inRegion ops L :: ck → cf.mode = .run →
    ∃ r' w' ct L', Steps P (lone cf cs w) (lone { cf with tmps := ct, todo := .inRegion ops L' :: ck } cs w') ∧ r.le r' ∧ (∀ i, ¬ Float done L tm i → r' i = r i) ∧ (∀ i, Float done L' tm i → r' i = none ∧ Float done L tm i) ∧ HR C.gl r' h w0 w' ∧
      Drw ops done R A L' nt tm ∧ TR r' (Pend done L') nt tm ct ∧ XTop C h ops done R A L' tm ∧ (R = [] → L' = []) ∧ (∀ e T, R = e :: T → ∃ L2, L' = e.idx :: L2)
  | [], r, w, cf, D, ht, hS, H, hfl, htodo, hmode => by
    refine ⟨r, w, cf.tmps, [], ?_, r.le_refl, fun _ _ => rfl, ?_, H, D, ht, hS, fun _ => rfl, ?_⟩
    · have : cf = { cf with tmps := cf.tmps, todo := .inRegion ops [] :: ck } := by rw [← htodo]
      rw [← this]; exact Steps.refl _ _
    · rintro i ⟨q, _, hL, _⟩; cases hL
    · intro e T eR
      have := D.rem e (by rw [eR]; simp)
      cases this
  | j :: L, r, w, cf, D, ht, hS, H, hfl, htodo, hmode => by
    rcases D.next hR with hq | ⟨e, T, eR, hej⟩
    · obtain ⟨r1, w1, v, s1, l1, k1, H1, t1⟩ := exec1 hC D hq ht hS H hfl htodo hmode cs
      have hfin : (cf.finish v).todo = .inRegion ops L :: ck := by simp [Frame.finish, htodo]
      have hmd : (cf.finish v).mode = .run := by simp [Frame.finish, htodo, hmode]
      have hsub : ∀ i, Float done L tm i → Float done (j :: L) tm i := by
        rintro i ⟨x, a, b, c⟩; exact ⟨x, a, List.mem_cons_of_mem _ b, c⟩
      obtain ⟨r2, w2, ct, L', a1, a2, a3, a4, a5, a6, a7, a8, a9, a10⟩ := catchUp hC hR L r1 w1 (cf.finish v) (D.tail hq) t1 (fun x hx hxL => hS x hx (List.mem_cons_of_mem _ hxL)) H1
        (fun i hi => by rw [k1 i (.inr hi)]; exact hfl i (hsub i hi)) hfin hmd
      refine ⟨r2, w2, ct, L', ?_, Rho.le_trans l1 a2, ?_, ?_, a5, a6, a7, a8, a9, a10⟩
      · refine .head s1 ?_
        have : ({ cf.finish v with tmps := ct, todo := .inRegion ops L' :: ck } : Frame) = { cf with tmps := ct, todo := .inRegion ops L' :: ck } := by
          simp [Frame.finish, htodo]
        rw [← this]; exact a1
      · intro i hi
        rw [a3 i (fun h => hi (hsub i h)), k1 i (.inl hi)]
      · intro i hi
        obtain ⟨b1, b2⟩ := a4 i hi
        exact ⟨b1, hsub i b2⟩
    · refine ⟨r, w, cf.tmps, j :: L, ?_, r.le_refl, fun _ _ => rfl, fun i hi => ⟨hfl i hi, hi⟩, H, D, ht, hS, ?_, ?_⟩
      · have : cf = { cf with tmps := cf.tmps, todo := .inRegion ops (j :: L) :: ck } := by rw [← htodo]
        rw [← this]; exact Steps.refl _ _
      · intro h0; rw [h0] at eR; cases eR
      · intro e2 T2 eR2
        rw [eR] at eR2; cases eR2
        exact ⟨L, by rw [hej]⟩
end
end Go.Am

namespace Go.Am
open Go Go.RowKit Forc

section
variable {P : Program} {C : Cfg} {r : Rho} {h : AHeap} {w0 w : World}

theorem mem_dropPreds [Atoms] {js : List Nat} {q : PE} : ∀ {l : List PE}, q ∈ l → q.idx ∉ js → q ∈ dropPreds js l
  | [], h, _ => by cases h
  | x :: l, h, hn => by
    unfold dropPreds
    cases hb : memN x.idx js with
    | true =>
      rcases List.mem_cons.1 h with e | h
      · subst e; exact absurd (memN_iff.1 hb) hn
      · simp only [ci_true]; exact mem_dropPreds h hn
    | false =>
      simp only [ci_false]
      rcases List.mem_cons.1 h with e | h
      · subst e; simp
      · exact List.mem_cons_of_mem _ (mem_dropPreds h hn)

theorem T.put_ne {nt : Nat} {tm : T Value} {d : Option Tmp} {v : Value} {t : Nat} (hne : d ≠ some t) : (putA nt tm d v).get t = tm.get t := by
  unfold putA
  cases d with
  | none => rfl
  | some d =>
    simp only
    cases Nat.blt d nt with
    | true => simp only [ci_true]; exact T.get_set_ne _ _ (fun e => hne (by rw [e]))
    | false => rfl

theorem TR_weaken [Atoms] {pend pend' : Nat → Prop} {nt : Nat} {tm : T Value} {ct : Array Value} (k : TR r pend nt tm ct) (hh : ∀ t, pend t → pend' t) : TR r pend' nt tm ct :=
  ⟨k.1, fun t v hp hv => k.2 t v (fun h => hp (hh t h)) hv⟩

/-- what stands first has yielded its value -/
theorem finishT_of [Atoms] [iF : Forc] {X : XR} {nt : Nat} {tm tm' : T Value} {cf : Frame} {fl : Nat → Prop} {todo todo' : List AItem} {v v' : Value} (k : TodoR r XHead nt tm cf.tmps fl todo cf.todo) (hv : cv r v = some v')
    (e : finishT C h nt tm v todo = some (tm', todo')) (hX : X = XTop C h) : ∃ fl', TodoR r X nt tm' (cf.finish v').tmps fl' todo' (cf.finish v').todo ∧ ∀ i, fl' i → fl i := by
  subst hX
  cases todo with
  | nil => cases e
  | cons i k0 =>
    cases i with
    | reg ops rest =>
      cases rest with
      | nil => cases e
      | cons o rest =>
        cases e
        obtain ⟨k1, k2, j, ck, k3, k4, k5⟩ := k
        have ho : ops[j]? = some o := by
          have : (ops.toList.drop j)[0]? = some o := by rw [k4]; rfl
          rw [List.getElem?_drop, Nat.add_zero, Array.getElem?_toList] at this
          exact this
        refine ⟨fl, ⟨?_, k2, j + 1, ck, ?_, ?_, k5⟩, fun _ h => h⟩
        · have e1 : (cf.finish v').tmps = (match o.dst with | some d => cf.tmps.setIfInBounds d v' | none => cf.tmps) := by
            simp only [Frame.finish, k3, List.length_cons, List.range'_succ, ho, Option.bind_some]
            cases o.dst <;> rfl
          rw [e1]; exact TR_put k1 hv
        · simp only [Frame.finish, k3, List.length_cons, List.range'_succ]
        · have : ops.toList.drop (j + 1) = (ops.toList.drop j).drop 1 := by rw [List.drop_drop]
          rw [this, k4]; rfl
    | draw ops R A =>
      cases R with
      | nil => cases e
      | cons e0 R =>
        obtain ⟨hag, e1⟩ := ci_then (show ci (allAgain C ops h (putA nt tm e0.op.dst v) (dropPreds e0.preds A)) (some (putA nt tm e0.op.dst v, .draw ops R (dropPreds e0.preds A) :: k0)) none = some (tm', todo') from e)
        cases e1
        obtain ⟨done, L, ck, k1, k2, D, k4, k5, x0, R', L', eR, eL⟩ := k
        cases eR
        subst eL
        have he : e0 ∈ done ++ e0 :: R := List.mem_append_right _ (by simp)
        obtain ⟨ho, _, _⟩ := D.plan.entry he
        have nd := D.plan.nodup
        rw [List.map_append, List.nodup_append] at nd
        have hne : ∀ x ∈ done, x.idx ≠ e0.idx := fun x hx hi => nd.2.2 _ (List.mem_map.2 ⟨x, hx, rfl⟩) _ (List.mem_map.2 ⟨e0, by simp, rfl⟩) hi
        have hpe : ∀ x ∈ done ++ [e0], x.idx ∈ L' → x ∈ done ∧ x.idx ∈ e0.idx :: L' := by
          intro x hx hxL
          rcases List.mem_append.1 hx with hx | hx
          · exact ⟨hx, List.mem_cons_of_mem _ hxL⟩
          · rw [List.mem_singleton] at hx
            subst hx
            exact absurd hxL D.headOut
        have hds : ∀ x ∈ done, x.idx ∈ e0.idx :: L' → ∀ d, x.op.dst = some d → e0.op.dst ≠ some d := by
          intro x hx hxL d hd h0
          have hxe : x ≠ e0 := fun e => hne x hx (by rw [e])
          have := (D.apart hx hxL rfl hxe (.inr ⟨R, rfl⟩)).2
          rw [sameDst_iff.2 ⟨d, h0, hd⟩] at this
          cases this
        have hfo : ∀ x ∈ done, x.idx ∈ e0.idx :: L' → ∀ i, FloatOf (putA nt tm e0.op.dst v) x i → FloatOf tm x i := by
          rintro x hx hxL i ⟨d, u, h1, h2, h3⟩
          rw [T.put_ne (hds x hx hxL d h1)] at h2
          exact ⟨d, u, h1, h2, h3⟩
        have hD : Drw ops (done ++ [e0]) R (dropPreds e0.preds A) L' nt (putA nt tm e0.op.dst v) := by
          refine ⟨by rw [List.append_assoc]; exact D.plan, ?_, ?_, ?_, ?_⟩
          · obtain ⟨L0, hl⟩ := D.lin
            exact ⟨L0 ++ [e0.idx], by rw [List.append_assoc]; exact hl⟩
          · intro x hx
            rcases List.mem_cons.1 (D.rem x (List.mem_cons_of_mem _ hx)) with h1 | h1
            · exfalso
              have := nd.2.1
              simp only [List.map_cons] at this
              exact (List.nodup_cons.1 this).1 (List.mem_map.2 ⟨x, hx, h1⟩)
            · exact h1
          · intro x hx hxL
            obtain ⟨h1, h2⟩ := hpe x hx hxL
            obtain ⟨a, b, c⟩ := D.put x h1 h2
            exact ⟨a, mem_dropPreds b (D.noPred he rfl h2), c⟩
          · intro x hx y hy h1 h2 h3 h4 i h5 h6
            obtain ⟨a1, a2⟩ := hpe x hx h1
            obtain ⟨b1, b2⟩ := hpe y hy h2
            exact D.inj x a1 y b1 a2 b2 h3 h4 i (hfo x a1 a2 i h5) (hfo y b1 b2 i h6)
        refine ⟨Float (done ++ [e0]) L' (putA nt tm e0.op.dst v), ⟨done ++ [e0], L', ck, ?_, k2, hD, ?_, fun _ => Iff.rfl, ?_⟩, ?_⟩
        · simp only [Frame.finish, k1]
        · have e1 : (cf.finish v').tmps = (match e0.op.dst with | some d => cf.tmps.setIfInBounds d v' | none => cf.tmps) := by
            simp only [Frame.finish, k1, ho, Option.bind_some]
            cases e0.op.dst <;> rfl
          rw [e1]
          refine TR_weaken (TR_put k4 hv) ?_
          rintro t ⟨x, hx, hxL, hd⟩
          rcases List.mem_cons.1 hxL with h1 | h1
          · exact absurd h1 (hne x hx)
          · exact ⟨x, List.mem_append_left _ hx, h1, hd⟩
        · intro x hx hxL
          obtain ⟨h1, h2⟩ := hpe x hx hxL
          exact allAgain_spec hag x (mem_dropPreds (D.put x h1 h2).2.1 (D.noPred he rfl h2))
        · rintro i ⟨x, hx, hxL, hk, hf⟩
          obtain ⟨h1, h2⟩ := hpe x hx hxL
          exact (k5 i).2 ⟨x, h1, h2, hk, hfo x h1 h2 i hf⟩
    | rangeF l =>
      cases e
      obtain ⟨k1, k2, pb, ck, k3, k4, k5⟩ := k
      refine ⟨fl, ⟨?_, k2, pb, ck, k3, ?_, k5⟩, fun _ h => h⟩
      · have : (cf.finish v').tmps = cf.tmps := by simp only [Frame.finish, k4]
        rw [this]; exact k1
      · simp only [Frame.finish, k4]
    | _ => cases e

theorem finish_fields (cf : Frame) (v : Value) : (cf.finish v).fn = cf.fn ∧ (cf.finish v).kind = cf.kind ∧ (cf.finish v).roundOf = cf.roundOf ∧ (cf.finish v).mode = cf.mode ∧ (cf.finish v).defers = cf.defers := by
  unfold Frame.finish
  split <;> exact ⟨rfl, rfl, rfl, rfl, rfl⟩

theorem finish_of [Atoms] [iF : Forc] {fr fr' : AFrame} {cf : Frame} {fl : Nat → Prop} {v v' : Value} (k : FR r XHead fr cf fl) (hv : cv r v = some v') (e : finishA C h fr v = some fr') :
    ∃ fl', FR r (XTop C h) fr' (cf.finish v') fl' ∧ (∀ i, fl' i → fl i) ∧ fr.mode = .run := by
  obtain ⟨fn, nt, tm, todo, df, md, kd, ro⟩ := fr
  cases md with
  | run =>
    obtain ⟨tm', todo', e1, e2⟩ := op2_eq (show op2 (finishT C h nt tm v todo) (fun tm todo => some (⟨fn, nt, tm, todo, df, .run, kd, ro⟩ : AFrame)) = some fr' from e)
    cases e2
    obtain ⟨fl', a, b⟩ := finishT_of (X := XTop C h) (k.run rfl) hv e1 rfl
    obtain ⟨f1, f2, f3, f4, f5⟩ := finish_fields cf v'
    exact ⟨fl', ⟨f1.trans k.fn, f2.trans k.kind, by rw [f3]; exact k.round, by rw [f4]; exact k.mode, by rw [f5]; exact k.defers, fun _ => a, fun h => absurd rfl h⟩, b, rfl⟩
  | _ => cases e

/-! ## panics -/
theorem dsts_mem {q : PE} {d : Nat} : ∀ {l : List PE}, q ∈ l → q.op.dst = some d → d ∈ dstsOf l
  | [], h, _ => by cases h
  | x :: l, h, hd => by
    unfold dstsOf
    rcases List.mem_cons.1 h with e | h
    · subst e; rw [hd]; simp
    · have := dsts_mem h hd
      cases x.op.dst with
      | none => exact this
      | some _ => exact List.mem_cons_of_mem _ this
theorem TodoR_off [Atoms] {X : XR} {nt : Nat} {tm : T Value} {cf : Frame} {fl : Nat → Prop} {todo : List AItem} (k : TodoR r X nt tm cf.tmps fl todo cf.todo) :
    TR r (fun t => t ∈ offT todo) nt tm cf.tmps ∧ ∀ d w re sv k, cf.todo ≠ .call d w re sv :: k := by
  cases todo with
  | nil => obtain ⟨k1, _, k2⟩ := k; exact ⟨TR_weaken k1 (fun _ h => h.elim), by intro _ _ _ _ _; rw [← Option.some.inj (show some ([] : List Item) = some cf.todo from k2)]; intro h; cases h⟩
  | cons i k0 =>
    cases i with
    | reg ops rest => obtain ⟨k1, _, j, ck, k2, _⟩ := k; exact ⟨TR_weaken k1 (fun _ h => h.elim), by intro _ _ _ _ _; rw [k2]; intro h; cases h⟩
    | draw ops R A =>
      obtain ⟨done, L, ck, k1, k2, D, k4, k5⟩ := k
      refine ⟨TR_weaken k4 ?_, by intro _ _ _ _ _; rw [k1]; intro h; cases h⟩
      rintro t ⟨q, hq, hL, hd⟩
      exact dsts_mem (D.put q hq hL).2.1 hd
    | rangeF l => obtain ⟨k1, _, pb, ck, _, k2, _⟩ := k; exact ⟨TR_weaken k1 (fun _ h => h.elim), by intro _ _ _ _ _; rw [k2]; intro h; cases h⟩
    | endRangeF l => obtain ⟨k1, _, pb, ck, _, k2, _⟩ := k; exact ⟨TR_weaken k1 (fun _ h => h.elim), by intro _ _ _ _ _; rw [k2]; intro h; cases h⟩
    | code c => obtain ⟨k1, _, k2⟩ := k; obtain ⟨c, ck, h1, h2, h3⟩ := plain_cons k2; cases h1; exact ⟨TR_weaken k1 (fun _ h => h.elim), by intro _ _ _ _ _; rw [h3]; intro h; cases h⟩
    | inBlock c => obtain ⟨k1, _, k2⟩ := k; obtain ⟨c, ck, h1, h2, h3⟩ := plain_cons k2; cases h1; exact ⟨TR_weaken k1 (fun _ h => h.elim), by intro _ _ _ _ _; rw [h3]; intro h; cases h⟩
    | inLoop c => obtain ⟨k1, _, k2⟩ := k; obtain ⟨c, ck, h1, h2, h3⟩ := plain_cons k2; cases h1; exact ⟨TR_weaken k1 (fun _ h => h.elim), by intro _ _ _ _ _; rw [h3]; intro h; cases h⟩
    | inScope c => obtain ⟨k1, _, k2⟩ := k; obtain ⟨c, ck, h1, h2, h3⟩ := plain_cons k2; cases h1; exact ⟨TR_weaken k1 (fun _ h => h.elim), by intro _ _ _ _ _; rw [h3]; intro h; cases h⟩
    | beginRound => obtain ⟨k1, _, k2⟩ := k; obtain ⟨c, ck, h1, h2, h3⟩ := plain_cons k2; cases h1; exact ⟨TR_weaken k1 (fun _ h => h.elim), by intro _ _ _ _ _; rw [h3]; intro h; cases h⟩
theorem offT_putOff (todo : List AItem) : offT (putOff todo) = offT todo := by
  cases todo with
  | nil => rfl
  | cons i k => cases i <;> rfl
theorem PLR_append [Atoms] : ∀ {l c l' c' : List PanicEntry}, PLR r l c → PLR r l' c' → PLR r (l ++ l') (c ++ c')
  | [], _, _, _, h, k => by cases h; simpa using k
  | _ :: _, _, _, _, ⟨c, cs, e, a, b, d, f⟩, k => by subst e; exact ⟨c, _, rfl, a, b, d, PLR_append f k⟩
theorem off_of [Atoms] {X : XR} {fr : AFrame} {cf : Frame} {fl : Nat → Prop} (k : FR r X fr cf fl) : TR r (fun t => t ∈ offT fr.todo) fr.nt fr.tmps cf.tmps ∧ ∀ d w re sv k, cf.todo ≠ .call d w re sv :: k := by
  cases hm : fr.mode with
  | run => exact TodoR_off (k.run hm)
  | returning => have := k.off (by rw [hm]; intro h; cases h); exact ⟨this.1, this.2.2⟩
  | panicking ch => have := k.off (by rw [hm]; intro h; cases h); exact ⟨this.1, this.2.2⟩
theorem raise_of [Atoms] {X X' : XR} {fr : AFrame} {cf : Frame} {fl : Nat → Prop} {vs cvs : List PanicEntry} (k : FR r X fr cf fl) (hv : PLR r vs cvs) : FR r X' (raiseA fr vs) (cf.raise cvs) (fun _ => False) := by
  obtain ⟨o1, o2⟩ := off_of k
  obtain ⟨fn, nt, tm, todo, df, md, kd, ro⟩ := fr
  have hmd := k.mode
  have hnr : (raiseA ⟨fn, nt, tm, todo, df, md, kd, ro⟩ vs).mode ≠ .run := by
    show raiseM vs md ≠ .run
    cases md <;> intro h <;> cases h
  have flds : (cf.raise cvs).fn = cf.fn ∧ (cf.raise cvs).kind = cf.kind ∧ (cf.raise cvs).roundOf = cf.roundOf ∧ (cf.raise cvs).defers = cf.defers ∧ (cf.raise cvs).tmps = cf.tmps ∧ (cf.raise cvs).todo = cf.todo := by
    unfold Frame.raise
    split <;> exact ⟨rfl, rfl, rfl, rfl, rfl, rfl⟩
  obtain ⟨f1, f2, f3, f4, f5, f6⟩ := flds
  refine ⟨f1.trans k.fn, f2.trans k.kind, by rw [f3]; exact k.round, ?_, by rw [f4]; exact k.defers, fun h => absurd h hnr, fun _ => ⟨?_, fun _ h => h, ?_⟩⟩
  · show ModeR r (raiseM vs md) (cf.raise cvs).mode
    cases md with
    | run =>
      have hc : cf.mode = .run := hmd
      refine ⟨cvs, ?_, hv⟩
      unfold Frame.raise; rw [hc]
    | returning =>
      have hc : cf.mode = .returning := hmd
      refine ⟨cvs, ?_, hv⟩
      unfold Frame.raise; rw [hc]
    | panicking ch =>
      obtain ⟨cch, hc, hp⟩ := hmd
      refine ⟨cvs ++ cch, ?_, PLR_append hv hp⟩
      unfold Frame.raise; rw [hc]
  · show TR r (fun t => t ∈ offT (putOff todo)) nt tm (cf.raise cvs).tmps
    rw [offT_putOff, f5]; exact o1
  · intro d w re sv k; rw [f6]; exact o2 d w re sv k
end
end Go.Am

namespace Go.Am
open Go Go.RowKit Forc

/-- a summary of a function -/
def OrcOk [Atoms] (P : Program) (gl : Nat) (f : FuncId) (g : Orc) : Prop :=
  ∀ {r : Rho} {h : AHeap} {w0 w : World} {args cargs : List Value} {v : Value} {h' : AHeap}, HR gl r h w0 w → cvs r args = some cargs → g args h = some (v, h') →
    h.next ≤ h'.next ∧ ∀ (c : Frame) (cs : List Frame), ∃ r' w' v', Ext h.next r r' ∧ HR gl r' h' w0 w' ∧ cv r' v = some v' ∧
      ((callFunc f ⟨cargs⟩).run P w = .ok (.value v') w' ∨
        ((callFunc f ⟨cargs⟩).run P w = .ok (.enter f ⟨cargs⟩) w ∧ Steps P (lone (Frame.enter P f ⟨cargs⟩ .normal) (c :: cs) w) (lone (c.finish v') cs w')))

/-- what is there stays, whatever is made behind it -/
theorem HR.later [Atoms] {gl : Nat} {r : Rho} {h : AHeap} {w0 w w' : World} (H : HR gl r h w0 w) (hb : Below w.heap.size w w') : HR gl r h w0 w' where
  obj := fun i pb hr => by
    obtain ⟨o, ho, hh⟩ := H.obj i pb hr
    refine ⟨o, ?_, hh⟩
    rw [hb.block _ (by
      rcases Nat.lt_or_ge pb.blk w.heap.size with h1 | h1
      · exact h1
      · simp [h1] at ho)]
    exact ho
  inj := H.inj
  bnd := H.bnd
  new := H.new
  hi := H.hi
  glob := H.glob
  ask := H.ask
  below := H.below.trans (hb.mono H.below.size)
  wf := H.wf

/-- a function that looks at its arguments alone, and leaves no trace -/
def PurOk (P : Program) (f : FuncId) (g : List Value → Option Value) : Prop :=
  ∀ (args : List Value) (v : Value), g args = some v → litF.all 4 args = true ∧ lit v = true ∧ ∀ (w : World) (c : Frame) (cs : List Frame), ∃ w', Below w.heap.size w w' ∧
    (callFunc f ⟨args⟩).run P w = .ok (.enter f ⟨args⟩) w ∧ Steps P (lone (Frame.enter P f ⟨args⟩ .normal) (c :: cs) w) (lone (c.finish v) cs w')
structure Good [Atoms] (P : Program) (C : Cfg) : Prop where
  p : C.p = AP.of P
  names : ∀ (f : FuncId) (fn : Func), P.funcs[f]? = some fn → fn.body.isSome = true → (fn.name == "runtime.NumGoroutine") = false
  mixed : P.follows .mixedOrders = true
  orc : ∀ f g, C.orc.get f = some g → OrcOk P C.gl f g
  pur : ∀ f g, C.pur.get f = some g → PurOk P f g

/-- a state of the model's machine that an abstract one stands for -/
def SR [Atoms] [iF : Forc] (C : Cfg) (w0 : World) (s : AState) (cf : Frame) (ccs : List Frame) (w : World) : Prop :=
  ∃ r fl fls, Ctx C.gl r s.h s.cs ccs fl fls w0 w ∧ FR r (XTop C s.h) s.fr cf fl
/-- the model's machine comes to such a one -/
def To [Atoms] [iF : Forc] (P : Program) (C : Cfg) (cs0 : List Frame) (w0 : World) (cf : Frame) (ccs : List Frame) (w : World) (s : AState) : Prop :=
  ∃ cf' ccs' w', Steps P (lone cf (ccs ++ cs0) w) (lone cf' (ccs' ++ cs0) w') ∧ SR C w0 s cf' ccs' w'

section
variable {P : Program} {C : Cfg} {r : Rho} {h : AHeap} {w0 w w' : World} {cf : Frame} {cs : List Frame} {s : Sem Next}

theorem apply_enter {f : FuncId} {args : Array Value} (hn : ∀ d w re sv k, cf.todo ≠ .call d w re sv :: k) (hr : s.run P w = .ok (.enter f args) w') :
    (stepG.apply P true cf cs none s w).bare = .go { frame := Frame.enter P f args .normal, callers := cf :: cs, status := .running, dying := none } w' := by
  unfold stepG.apply
  simp only [Sem.runT_eq, if_true, hr, GStep.bare_after]
  split
  · rename_i d re sv k hh; exact absurd hh (hn _ _ _ _ _)
  · rfl
theorem apply_round {l : Nat} {f : FuncId} {tmps : Array Value} {a b : Code} (hr : s.run P w = .ok (.round l f tmps a b) w') :
    (stepG.apply P true cf cs none s w).bare = .go { frame := Frame.round l f tmps a b .normal, callers := cf :: cs, status := .running, dying := none } w' := by
  unfold stepG.apply
  simp only [Sem.runT_eq, if_true, hr, GStep.bare_after]
  rfl
theorem apply_defer {d : Deferred} (hr : s.run P w = .ok (.defer d) w') :
    (stepG.apply P true cf cs none s w).bare = .go { frame := { cf with defers := d :: cf.defers }.finish undef, callers := cs, status := .running, dying := none } w' := by
  unfold stepG.apply
  simp only [Sem.runT_eq, if_true, hr, GStep.bare_after]
  rfl
theorem apply_panic {v : Value} (hr : s.run P w = .halt (.panic v) w') :
    (stepG.apply P true cf cs none s w).bare = .go { frame := cf.raise [{ v, recovered := false }], callers := cs, status := .running, dying := none } w' := by
  unfold stepG.apply
  simp only [Sem.runT_eq, if_true, hr, GStep.bare_after]
  rfl
theorem apply_recover (hro : cf.roundOf = none) (hr : s.run P w = .ok .recover w') :
    (stepG.apply P true cf cs none s w).bare = (match tryRecover cf cs with
      | some (v, cs') => .go { frame := cf.finish v, callers := cs', status := .running, dying := none } w'
      | none => .go { frame := cf.finish .nilIface, callers := cs, status := .running, dying := none } w') := by
  unfold stepG.apply
  simp only [Sem.runT_eq, if_true, hr, GStep.bare_after, hro]
  split <;> rename_i hh <;> rw [hh] <;> rfl

theorem Ctx.sub [Atoms] {gl : Nat} {acs : List AFrame} {ccs : List Frame} {fl fl' fls : Nat → Prop} (K : Ctx gl r h acs ccs fl fls w0 w) (hh : ∀ i, fl' i → fl i) : Ctx gl r h acs ccs fl' fls w0 w :=
  { K with f1 := fun i hi => K.f1 i (hh i hi) }

theorem funcs_spec {f : FuncId} {fn : Func} (e : (AP.of P).funcs.get f = some fn) : P.funcs[f]? = some fn := by
  have : (T.ofList P.funcs.toList).get f = some fn := e
  rw [T.get_ofList, Array.getElem?_toList] at this
  exact this

theorem call_run [Atoms] (G : Good P C) {f : FuncId} {fn : Func} (hf : P.funcs[f]? = some fn) (hb : fn.body.isSome = true) (args : Array Value) : (callFunc f args).run P w = .ok (.enter f args) w := by
  unfold callFunc
  have hnone : fn.body.isNone = false := by cases h : fn.body <;> simp_all
  have hpr : (program : Sem Program).run P w = .ok P w := rfl
  simp only [Sem.run_bind, hpr, Result.andThen_ok, hf, G.names f fn hf hb, hnone, Bool.false_eq_true, if_false, Sem.run_pure]

/-- a frame that is entered -/
theorem enter_of [Atoms] [iF : Forc] (G : Good P C) {f : FuncId} {args cargs : List Value} {kind : CallKind} {fr : AFrame} {X : XR} (ha : cvs r args = some cargs) (e : enterA C f args kind = some fr) :
    FR r X fr (Frame.enter P f ⟨cargs⟩ kind) (fun _ => False) ∧ ∃ fn, P.funcs[f]? = some fn ∧ fn.body.isSome = true := by
  obtain ⟨fn, hfn, e1⟩ := ob_eq e
  obtain ⟨c, hc, e2⟩ := ob_eq e1
  rw [fN_eq] at e2
  cases e2
  rw [G.p] at hfn
  have hf := funcs_spec hfn
  refine ⟨⟨rfl, rfl, rfl, rfl, rfl, fun _ => ⟨?_, fun _ h => h, ?_⟩, fun h => absurd rfl h⟩, fn, hf, by rw [hc]; rfl⟩
  · have hlen := cvs_length ha
    refine ⟨?_, ?_⟩
    · show (((⟨cargs⟩ : Array Value) ++ Array.replicate (((P.funcs[f]?).map (·.ntmps)).getD 0 - (⟨cargs⟩ : Array Value).size) undef)).size = ci (Nat.ble fn.ntmps (lenL args)) (lenL args) fn.ntmps
      rw [hf, lenL_eq]
      simp only [Option.map_some, Option.getD_some, Array.size_append, Array.size_replicate]
      show cargs.length + (fn.ntmps - cargs.length) = _
      rw [hlen]
      cases hb : Nat.ble fn.ntmps args.length with
      | true => have := nble.1 hb; rw [ci_true]; omega
      | false => have := nble_f.1 hb; rw [ci_false]; omega
    · intro t v _ hv
      rw [T.get_ofList] at hv
      obtain ⟨v', h1, h2⟩ := cvs_get ha hv
      refine ⟨v', h1, ?_⟩
      show ((⟨cargs⟩ : Array Value) ++ Array.replicate _ undef)[t]? = some v'
      have hlt : t < (⟨cargs⟩ : Array Value).size := by
        rcases Nat.lt_or_ge t cargs.length with h | h
        · exact h
        · simp [h] at h2
      rw [Array.getElem?_append_left hlt]
      simpa using h2
  · show plainC [.code c] = some [.code ((((P.funcs[f]?).bind (·.body)).getD (.refuse "unsupported: a function without a Go body is entered")))]
    rw [hf]
    simp only [Option.bind_some, hc, Option.getD_some]
    rfl

theorem setParams_of [Atoms] {nt : Nat} : ∀ {ps : List Tmp} {vs vs' : List Value} {tm tm' : T Value} {ct : Array Value}, cvs r vs = some vs' → TR r (fun _ => False) nt tm ct → setParams nt ps vs tm = some tm' →
    vs'.length = ps.length ∧ TR r (fun _ => False) nt tm' ((ps.zip vs').foldl (fun tmps (t, a) => tmps.setIfInBounds t a) ct)
  | [], vs, vs', tm, tm', ct, hv, ht, e => by
    cases vs with
    | nil => cases e; simp [cvs] at hv; subst hv; exact ⟨rfl, ht⟩
    | cons _ _ => cases e
  | p :: ps, vs, vs', tm, tm', ct, hv, ht, e => by
    cases vs with
    | nil => cases e
    | cons v vs =>
      obtain ⟨v', k, e1, h1, h2⟩ := cvs_cons hv
      subst e1
      have ht2 := TR_put (d := some p) ht h1
      obtain ⟨a, b⟩ := setParams_of h2 ht2 (show setParams nt ps vs (putA nt tm (some p) v) = some tm' from e)
      exact ⟨by simp [a], b⟩

theorem loop_of [Atoms] {gl : Nat} (H : HR gl r h w0 w) {l : Nat} {al : ALoop} (hg : h.get l = some (.loop al)) {pb : PB} (hp : r l = some pb) :
    ∃ cl, w.heap[pb.blk]? = some (.loop cl) ∧ LR r al cl ∧ (Instr.getLoop pb.blk).run P w = .ok cl w := by
  obtain ⟨o, ho, hh⟩ := H.obj l pb hp
  obtain ⟨cl, e, k⟩ := hh _ hg
  subst e
  exact ⟨cl, ho, k, by simp [Instr.getLoop, getObj, Sem.run, ho]⟩

theorem tryRecover_normal (hk : cf.kind = .normal) : tryRecover cf cs = none := by
  unfold tryRecover; rw [hk]
end
end Go.Am

namespace Go.Am
open Go Go.RowKit Forc

section
variable {P : Program} {C : Cfg} {cs0 : List Frame} {w0 : World}

/-- a value is there: the frame goes on -/
theorem goOn [Atoms] [iF : Forc] {cfS : Frame} {r : Rho} {h : AHeap} {fr fr' : AFrame} {cs : List AFrame} {cf : Frame} {ccs : List Frame} {fl fls : Nat → Prop} {w w' : World} {v v' : Value} (K : Ctx C.gl r h cs ccs fl fls w0 w') (F : FR r XHead fr cf fl)
    (hv : cv r v = some v') (e : finishA C h fr v = some fr') (hb : step P (lone cfS (ccs ++ cs0) w) = .next (lone (cf.finish v') (ccs ++ cs0) w')) : To P C cs0 w0 cfS ccs w ⟨fr', cs, h⟩ := by
  obtain ⟨fl', F', hsub, _⟩ := finish_of F hv e
  exact ⟨_, ccs, w', Steps.one hb, r, fl', fls, K.sub hsub, F'⟩

theorem act_of [Atoms] [iF : Forc] (G : Good P C) {cfS : Frame} {wS : World} {r : Rho} {h : AHeap} {fr : AFrame} {cs : List AFrame} {cf : Frame} {ccs : List Frame} {fl fls : Nat → Prop} {w w' : World} {s : Sem Next} {n : ANext} {s' : AState}
    (K : Ctx C.gl r h cs ccs fl fls w0 w') (F : FR r XHead fr cf fl) (hm : fr.mode = .run) (ho : OutR P r w' (s.run P w) n)
    (hb : (stepG P true { frame := cfS, callers := ccs ++ cs0, status := .running, dying := none } wS).bare = (stepG.apply P true cf (ccs ++ cs0) none s w).bare)
    (e : act C fr cs h n = some s') : To P C cs0 w0 cfS ccs wS s' := by
  have hnocall := (off_of F).2
  -- a function is entered
  have enter : ∀ {f : FuncId} {args cargs : List Value} {fr' : AFrame}, cvs r args = some cargs → s.run P w = (callFunc f ⟨cargs⟩).run P w' → enterA C f args .normal = some fr' → To P C cs0 w0 cfS ccs wS ⟨fr', fr :: cs, h⟩ := by
    intro f args cargs fr' ha hr he
    obtain ⟨F', fn, hf, hbd⟩ := enter_of (X := XTop C h) G ha he
    rw [call_run G hf hbd] at hr
    refine ⟨Frame.enter P f ⟨cargs⟩ .normal, cf :: ccs, w', Steps.one (step_lone_go (by rw [hb, apply_enter hnocall hr]; rfl)), r, _, fun i => fl i ∨ fls i, ⟨K.hr, ⟨cf, ccs, rfl, fl, fls, F, K.csr, fun _ => Iff.rfl, fun i hi => (K.f1 i hi).2.2⟩, fun _ h => h.elim, ?_⟩, F'⟩
    rintro i (hi | hi)
    · exact ⟨(K.f1 i hi).1, (K.f1 i hi).2.1⟩
    · exact K.f2 i hi
  cases n with
  | value v =>
    obtain ⟨fr', e1, e2⟩ := ob_eq (show ob (finishA C h fr v) (fun fr => some (⟨fr, cs, h⟩ : AState)) = some s' from e)
    cases e2
    obtain ⟨v', hv, hr⟩ := ho
    exact goOn K F hv e1 (step_lone_go (by rw [hb, apply_value hr]))
  | skip =>
    obtain ⟨fr', e1, e2⟩ := ob_eq (show ob (finishA C h fr undefA) (fun fr => some (⟨fr, cs, h⟩ : AState)) = some s' from e)
    cases e2
    exact goOn K F (v' := undef) (by simp [undefA, undef, cv, cvs]) e1 (step_lone_go (by rw [hb, apply_skip ho]))
  | enter f args =>
    obtain ⟨cargs, ha, hr⟩ := ho
    cases hq : C.orc.get f with
    | none =>
      have e0 : ob (enterA C f args .normal) (fun fr' => some (⟨fr', fr :: cs, h⟩ : AState)) = some s' := by
        have := e
        unfold act at this
        simp only [hq] at this
        exact this
      obtain ⟨fr', e1, e2⟩ := ob_eq e0
      cases e2
      exact enter ha hr e1
    | some g =>
      have e0 : op2 (g args h) (fun v h' => ob (finishA C h' fr v) fun fr => some (⟨fr, cs, h'⟩ : AState)) = some s' := by
        have := e
        unfold act at this
        simp only [hq] at this
        exact this
      obtain ⟨v, h', e1, e2⟩ := op2_eq e0
      obtain ⟨fr', e3, e4⟩ := ob_eq e2
      cases e4
      obtain ⟨hn, hh⟩ := G.orc f g hq K.hr ha e1
      obtain ⟨r', w'', v', hx, H', hv, hrun⟩ := hh cf (ccs ++ cs0)
      have K' := K.step hx hn H'
      have F' := FR_mono hx.le F
      rcases hrun with hrun | ⟨hrun, hsteps⟩
      · exact goOn K' F' hv e3 (step_lone_go (by rw [hb, apply_value (hr.trans hrun)]))
      · obtain ⟨fl', F2, hsub, _⟩ := finish_of F' hv e3
        refine ⟨cf.finish v', ccs, w'', .head (step_lone_go (by rw [hb, apply_enter hnocall (hr.trans hrun)])) hsteps, r', fl', fls, K'.sub hsub, F2⟩
  | round l args =>
    obtain ⟨al, hg, e1⟩ := onLoop_eq (show onLoop (h.get l) _ = some s' from e)
    obtain ⟨tm, htm, e2⟩ := ob_eq e1
    cases e2
    obtain ⟨pb, cargs, hp, ha, hr⟩ := ho
    obtain ⟨cl, hcl, LRk, hgl⟩ := loop_of (P := P) K.hr hg hp
    have hps := LRk.params
    obtain ⟨hlen, htr⟩ := setParams_of ha LRk.tmps htm
    have hyield : (Instr.yield pb.blk ⟨cargs⟩).run P w' = .ok (.round pb.blk cl.fn (((cl.params.zip ⟨cargs⟩)).foldl (fun tmps (t, a) => tmps.setIfInBounds t a) cl.tmps) cl.assign cl.body) w' := by
      unfold Instr.yield
      simp only [Sem.run_bind, hgl, Result.andThen_ok]
      have : ¬ ((⟨cargs⟩ : Array Value).size ≠ cl.params.size) := by
        rw [hps]
        simp only [ne_eq, Decidable.not_not]
        show cargs.length = al.params.size
        rw [hlen]; simp
      rw [if_neg this]
      rfl
    rw [hyield] at hr
    have hzip : (((cl.params.zip ⟨cargs⟩)).foldl (fun tmps (t, a) => tmps.setIfInBounds t a) cl.tmps) = ((al.params.toList.zip cargs).foldl (fun tmps (t, a) => tmps.setIfInBounds t a) cl.tmps) := by
      rw [hps, ← Array.foldl_toList]
      simp
    refine ⟨Frame.round pb.blk cl.fn _ cl.assign cl.body .normal, cf :: ccs, w', Steps.one (step_lone_go (by rw [hb, apply_round hr]; rfl)), r, fun _ => False, fun i => fl i ∨ fls i, ⟨K.hr, ⟨cf, ccs, rfl, fl, fls, F, K.csr, fun _ => Iff.rfl, fun i hi => (K.f1 i hi).2.2⟩, fun _ h => h.elim, ?_⟩, ?_⟩
    · rintro i (hi | hi)
      · exact ⟨(K.f1 i hi).1, (K.f1 i hi).2.1⟩
      · exact K.f2 i hi
    · refine ⟨LRk.fn, rfl, ⟨pb, hp, rfl⟩, rfl, rfl, fun _ => ⟨?_, fun _ h => h, ?_⟩, fun h => absurd rfl h⟩
      · show TR r (fun _ => False) al.nt tm (((cl.params.zip ⟨cargs⟩)).foldl (fun tmps (t, a) => tmps.setIfInBounds t a) cl.tmps)
        rw [hzip]; exact htr
      · show plainC [.code al.assign, .beginRound, .code al.body] = some [.code cl.assign, .beginRound, .code cl.body]
        rw [LRk.assign, LRk.body]; rfl
  | defer d =>
    obtain ⟨fn, nt, tm, todo, df, md, kd, ro⟩ := fr
    obtain ⟨cd, hd, hr⟩ := ho
    cases ro with
    | some _ => cases e
    | none =>
      obtain ⟨fr', e1, e2⟩ := ob_eq (show ob (finishA C h ⟨fn, nt, tm, todo, d :: df, md, kd, none⟩ undefA) (fun fr => some (⟨fr, cs, h⟩ : AState)) = some s' from e)
      cases e2
      have F2 : FR r XHead ⟨fn, nt, tm, todo, d :: df, md, kd, none⟩ { cf with defers := cd :: cf.defers } fl :=
        ⟨F.fn, F.kind, F.round, F.mode, ⟨cd, cf.defers, rfl, hd, F.defers⟩, F.run, F.off⟩
      obtain ⟨fl', F', hsub, _⟩ := finish_of F2 (v' := undef) (by simp [undefA, undef, cv, cvs]) e1
      exact ⟨_, ccs, w', Steps.one (step_lone_go (by rw [hb, apply_defer hr])), r, fl', fls, K.sub hsub, F'⟩
  | panic v =>
    cases e
    obtain ⟨v', hv, hr⟩ := ho
    exact ⟨_, ccs, w', Steps.one (step_lone_go (by rw [hb, apply_panic hr])), r, fun _ => False, fls, K.sub (fun _ h => h.elim), raise_of (cvs := [{ v := v', recovered := false }]) F ⟨_, _, rfl, hv, rfl, rfl, rfl⟩⟩
  | recover =>
    have hr : s.run P w = .ok .recover w' := ho
    have hro0 := F.round
    obtain ⟨fn, nt, tm, todo, df, md, kd, ro⟩ := fr
    cases ro with
    | some _ => cases e
    | none =>
      have hro : cf.roundOf = none := hro0
      have hkd := F.kind
      have none_ : ∀ {fr' : AFrame} {cs1 : List AFrame} {ccs1 : List Frame} {fls1 : Nat → Prop}, Ctx C.gl r h cs1 ccs1 fl fls1 w0 w' → ccs1 = ccs → tryRecover cf (ccs ++ cs0) = none → finishA C h ⟨fn, nt, tm, todo, df, md, kd, none⟩ .nilIface = some fr' →
          To P C cs0 w0 cfS ccs wS ⟨fr', cs1, h⟩ := by
        intro fr' cs1 ccs1 fls1 K1 ec ht e1
        subst ec
        exact goOn K1 F (v' := .nilIface) (by simp [cv]) e1 (step_lone_go (by rw [hb, apply_recover hro hr, ht]))
      cases kd with
      | normal =>
        obtain ⟨fr', e1, e2⟩ := ob_eq (show ob (finishA C h ⟨fn, nt, tm, todo, df, md, .normal, none⟩ .nilIface) (fun fr => some (⟨fr, cs, h⟩ : AState)) = some s' from e)
        cases e2
        exact none_ K rfl (tryRecover_normal hkd) e1
      | deferred =>
        cases cs with
        | nil => cases e
        | cons c rest =>
          obtain ⟨cc, ccs', ec, f, g, Fc, Kr, hsplit, hdis⟩ := K.csr
          subst ec
          obtain ⟨cfn, cnt, ctm, ctodo, cdf, cmd, ckd, cro⟩ := c
          have hcm := Fc.mode
          have whole : ∀ {m' : FrameMode}, tryRecover cf ((cc :: ccs') ++ cs0) = none → (ob (finishA C h ⟨fn, nt, tm, todo, df, md, .deferred, none⟩ .nilIface) (fun fr => some (⟨fr, ⟨cfn, cnt, ctm, ctodo, cdf, cmd, ckd, cro⟩ :: rest, h⟩ : AState)) = some s') → To P C cs0 w0 cfS (cc :: ccs') wS s' := by
            intro _ ht e
            obtain ⟨fr', e1, e2⟩ := ob_eq e
            cases e2
            exact none_ K rfl ht e1
          have tr : tryRecover cf ((cc :: ccs') ++ cs0) = (match cc.mode with
              | .panicking ({ v, recovered := false, goexit := false } :: older) => some (v, { cc with mode := .panicking ({ v, recovered := true } :: older) } :: (ccs' ++ cs0))
              | _ => none) := by
            unfold tryRecover
            rw [show cf.kind = .deferred from hkd]
            rfl
          cases cmd with
          | run => exact whole (m' := .run) (by rw [tr, show cc.mode = .run from hcm]) e
          | returning => exact whole (m' := .run) (by rw [tr, show cc.mode = .returning from hcm]) e
          | panicking ch =>
            obtain ⟨cch, hcc, hpl⟩ := hcm
            cases ch with
            | nil =>
              have : cch = [] := hpl
              subst this
              exact whole (m' := .run) (by rw [tr, hcc]) e
            | cons p ch =>
              obtain ⟨cp, cch', ecp, p1, p2, p3, p4⟩ := hpl
              subst ecp
              obtain ⟨pv, prec, pgo⟩ := p
              obtain ⟨cpv, cprec, cpgo⟩ := cp
              simp only at p1 p2 p3
              subst p2; subst p3
              cases cprec with
              | true => exact whole (m' := .run) (by rw [tr, hcc]) e
              | false => cases cpgo with
                | true => exact whole (m' := .run) (by rw [tr, hcc]) e
                | false =>
                  obtain ⟨fr', e1, e2⟩ := ob_eq (show ob (finishA C h ⟨fn, nt, tm, todo, df, md, .deferred, none⟩ pv) (fun fr => some (⟨fr, ⟨cfn, cnt, ctm, ctodo, cdf, .panicking ({ v := pv, recovered := true } :: ch), ckd, cro⟩ :: rest, h⟩ : AState)) = some s' from e)
                  cases e2
                  obtain ⟨fl', F', hsub, _⟩ := finish_of F p1 e1
                  refine ⟨cf.finish cpv, { cc with mode := .panicking ({ v := cpv, recovered := true } :: cch') } :: ccs', w', Steps.one (step_lone_go (by rw [hb, apply_recover hro hr, tr, hcc]; rfl)), r, fl', fls, ?_, F'⟩
                  refine Ctx.sub ⟨K.hr, ⟨_, ccs', rfl, f, g, ⟨Fc.fn, Fc.kind, Fc.round, ⟨_, rfl, ⟨_, _, rfl, p1, rfl, rfl, p4⟩⟩, Fc.defers, (fun h => by cases h), fun _ => Fc.off (by intro h; cases h)⟩, Kr, hsplit, hdis⟩, K.f1, K.f2⟩ hsub
      | _ => cases e
end
end Go.Am

namespace Go.Am
open Go Go.RowKit Forc

/-- of a running frame, all but what it has to do -/
structure FB [Atoms] (r : Rho) (fn : FuncId) (df : List Deferred) (kd : CallKind) (ro : Option Nat) (cf : Frame) : Prop where
  fn : cf.fn = fn
  kind : cf.kind = kd
  round : RoundR r ro cf.roundOf
  mode : cf.mode = .run
  defers : DLR r df cf.defers

section
variable {P : Program} {C : Cfg} {cs0 : List Frame} {w0 : World} {r : Rho} {fn : FuncId} {df : List Deferred} {kd : CallKind} {ro : Option Nat} {cf : Frame}

theorem FB_mono [Atoms] {s : Rho} (h : r.le s) (k : FB r fn df kd ro cf) : FB s fn df kd ro cf :=
  { k with round := RoundR_mono h k.round, defers := DLR_mono h k.defers }
theorem FB_finish [Atoms] (k : FB r fn df kd ro cf) (v : Value) : FB r fn df kd ro (cf.finish v) := by
  obtain ⟨f1, f2, f3, f4, f5⟩ := finish_fields cf v
  exact ⟨f1.trans k.fn, f2.trans k.kind, by rw [f3]; exact k.round, f4.trans k.mode, by rw [f5]; exact k.defers⟩
theorem FB_with [Atoms] (k : FB r fn df kd ro cf) (ct : Array Value) (todo : List Item) : FB r fn df kd ro { cf with tmps := ct, todo := todo } :=
  ⟨k.fn, k.kind, k.round, k.mode, k.defers⟩
theorem FB_todo [Atoms] (k : FB r fn df kd ro cf) (todo : List Item) : FB r fn df kd ro { cf with todo := todo } :=
  ⟨k.fn, k.kind, k.round, k.mode, k.defers⟩
theorem FB.fr [Atoms] (k : FB r fn df kd ro cf) {X : XR} {nt : Nat} {tm : T Value} {fl : Nat → Prop} {todo : List AItem} (t : TodoR r X nt tm cf.tmps fl todo cf.todo) : FR r X ⟨fn, nt, tm, todo, df, .run, kd, ro⟩ cf fl :=
  ⟨k.fn, k.kind, k.round, k.mode, k.defers, fun _ => t, fun h => absurd rfl h⟩
theorem FR.fb [Atoms] {X : XR} {nt : Nat} {tm : T Value} {fl : Nat → Prop} {todo : List AItem} (k : FR r X ⟨fn, nt, tm, todo, df, .run, kd, ro⟩ cf fl) : FB r fn df kd ro cf :=
  ⟨k.fn, k.kind, k.round, k.mode, k.defers⟩

theorem TodoR_plain [Atoms] {X : XR} {nt : Nat} {tm : T Value} {ct : Array Value} {fl : Nat → Prop} {k : List AItem} {ck : List Item} (ht : TR r (fun _ => False) nt tm ct) (hf : ∀ i, ¬ fl i) (hk : plainC k = some ck) : TodoR r X nt tm ct fl k ck := by
  cases k with
  | nil => exact ⟨ht, hf, hk⟩
  | cons i k =>
    obtain ⟨c, ck', h1, h2, h3⟩ := plain_cons hk
    cases i <;> first | exact ⟨ht, hf, hk⟩ | cases h1

theorem Steps_To [Atoms] [iF : Forc] {cf cf1 : Frame} {ccs ccs1 : List Frame} {w w1 : World} {s' : AState} (h : Steps P (lone cf (ccs ++ cs0) w) (lone cf1 (ccs1 ++ cs0) w1)) (k : To P C cs0 w0 cf1 ccs1 w1 s') : To P C cs0 w0 cf ccs w s' := by
  obtain ⟨cf', ccs', w', s, R⟩ := k
  exact ⟨cf', ccs', w', Steps.trans h s, R⟩

theorem step_end {w : World} {cs : List Frame} {ops : Array Oper} {ck : List Item} (ht : cf.todo = .inRegion ops [] :: ck) (hm : cf.mode = .run) : step P (lone cf cs w) = .next (lone { cf with todo := ck } cs w) :=
  step_lone_go (by simp [stepG, stepG.exec, ht, hm])

/-- **A REGION WHOSE ORDER IS FIXED** -/
theorem reg_of [Atoms] [iF : Forc] (G : Good P C) {nt : Nat} {ops : Array Oper} {k : List AItem} {ck : List Item} {cs : List AFrame} {ccs : List Frame} {fls : Nat → Prop} {s' : AState} (hk : plainC k = some ck) :
    ∀ (rest : List Oper) (j : Nat) (tm : T Value) (h : AHeap) (r : Rho) (w : World) (cf : Frame), Ctx C.gl r h cs ccs (fun _ => False) fls w0 w → FB r fn df kd ro cf → TR r (fun _ => False) nt tm cf.tmps →
      cf.todo = .inRegion ops (List.range' j rest.length) :: ck → ops.toList.drop j = rest → regK ops rest k C fn nt tm df kd ro cs h = some s' → To P C cs0 w0 cf ccs w s'
  | [], j, tm, h, r, w, cf, K, B, ht, htodo, hd, e => by
    have e1 : some (⟨⟨fn, nt, tm, k, df, .run, kd, ro⟩, cs, h⟩ : AState) = some s' := e
    cases e1
    exact ⟨_, ccs, w, Steps.one (step_end htodo B.mode), r, fun _ => False, fls, K, (FB_todo B ck).fr (TodoR_plain ht (fun _ h => h) hk)⟩
  | o :: rest, j, tm, h, r, w, cf, K, B, ht, htodo, hd, e => by
    have ho : ops[j]? = some o := by
      have : (ops.toList.drop j)[0]? = some o := by rw [hd]; rfl
      rw [List.getElem?_drop, Nat.add_zero, Array.getElem?_toList] at this
      exact this
    have htodo' : cf.todo = .inRegion ops (j :: List.range' (j + 1) rest.length) :: ck := by rw [htodo]; rfl
    have hd' : ops.toList.drop (j + 1) = rest := by
      have : ops.toList.drop (j + 1) = (ops.toList.drop j).drop 1 := by rw [List.drop_drop]
      rw [this, hd]; rfl
    have fin : ∀ {r' : Rho} {v v' : Value}, r.le r' → cv r' v = some v' → TR r' (fun _ => False) nt (putA nt tm o.dst v) (cf.finish v').tmps ∧ (cf.finish v').todo = .inRegion ops (List.range' (j + 1) rest.length) :: ck := by
      intro r' v v' hle hv
      refine ⟨?_, by simp only [Frame.finish, htodo']⟩
      have e1 : (cf.finish v').tmps = (match o.dst with | some d => cf.tmps.setIfInBounds d v' | none => cf.tmps) := by
        simp only [Frame.finish, htodo', ho, Option.bind_some]
        cases o.dst <;> rfl
      rw [e1]; exact TR_put (TR_mono hle ht) hv
    obtain ⟨st, e1, e2⟩ := ob_eq e
    obtain ⟨b, hb, e3⟩ := ob_eq (show ob (wantedA ops tm o) _ = some st from e1)
    have hw := wanted_of ht (fun _ _ _ _ _ _ _ h => h) hb
    rcases ci_some e3 with ⟨hbt, e4⟩ | ⟨hbf, e4⟩
    · subst hbt
      obtain ⟨n, h', hop, e5⟩ := op2_eq e4
      have hev : EV r tm C.gl cf.eval o.op.operands.toList := ev_of K.hr ht (fun _ _ h => h)
      rw [G.p] at hop
      obtain ⟨r', w', hx, H', hout⟩ := oper_sound (P := P) K.hr o hev hop
      have K' := K.step hx (operF_next hop) H'
      have acts : some (⟨o :: rest, tm, h', some n⟩ : Stop) = some st → To P C cs0 w0 cf ccs w s' := by
        intro e6
        cases e6
        have e7 : act C ⟨fn, nt, tm, .reg ops (o :: rest) :: k, df, .run, kd, ro⟩ cs h' n = some s' := e2
        have hround : cf.roundOf = none ∨ ∀ c, o.op ≠ .defer c := by
          have hR := B.round
          cases ro with
          | none => exact .inl hR
          | some l =>
            refine .inr (fun c hc => ?_)
            -- a deferred call in a round is not carried out
            rw [hc] at hop
            have : ∃ d, n = .defer d := by
              obtain ⟨callee, args, argTypes⟩ := c
              cases callee with
              | value f =>
                obtain ⟨fv, _, q1⟩ := ob_eq (show deferF ⟨.value f, args, argTypes⟩ (AP.of P) C.gl tm h = some (n, h') from hop)
                obtain ⟨vs, _, q2⟩ := ob_eq q1
                cases fv with
                | func _ _ _ => cases q2; exact ⟨_, rfl⟩
                | _ => cases q2
              | _ => cases hop
            obtain ⟨d, hn⟩ := this
            subst hn
            cases e7
        have F0 : FR r' XHead ⟨fn, nt, tm, .reg ops (o :: rest) :: k, df, .run, kd, ro⟩ cf (fun _ => False) := (FB_mono hx.le B).fr (X := XHead) (nt := nt) (tm := tm) (todo := .reg ops (o :: rest) :: k) ⟨TR_mono hx.le ht, fun _ h => h, j, ck, htodo, hd, hk⟩
        exact act_of G K' F0 rfl hout (bare_oper htodo' B.mode ho hw hround) e7
      have hnd : (∃ v, n = .value v) ∨ n = .skip → ∀ c, o.op ≠ .defer c := by
        intro hn c hc
        rw [hc] at hop
        obtain ⟨callee, args, argTypes⟩ := c
        cases callee with
        | value f =>
          obtain ⟨fv, _, q1⟩ := ob_eq (show deferF ⟨.value f, args, argTypes⟩ (AP.of P) C.gl tm h = some (n, h') from hop)
          obtain ⟨vs, _, q2⟩ := ob_eq q1
          cases fv with
          | func _ _ _ =>
            cases q2
            rcases hn with ⟨_, hn⟩ | hn <;> cases hn
          | _ => cases q2
        | _ => cases hop
      cases n with
      | value v =>
        obtain ⟨v', hv, hr⟩ := hout
        obtain ⟨t1, t2⟩ := fin hx.le hv
        refine Steps_To (Steps.one (step_lone_go (by rw [bare_oper htodo' B.mode ho hw (.inr (hnd (.inl ⟨_, rfl⟩))), apply_value hr]))) (reg_of G hk rest (j + 1) _ h' r' w' (cf.finish v') K' (FB_finish (FB_mono hx.le B) v') t1 t2 hd' ?_)
        show ob (opsA C.p C.gl nt ops rest (putA nt tm o.dst v) h') _ = some s'
        rw [show opsA C.p C.gl nt ops rest (putA nt tm o.dst v) h' = some st from e5]
        exact e2
      | skip =>
        have hr : (execOp cf.eval o).run P w = .ok .skip w' := hout
        obtain ⟨t1, t2⟩ := fin (v := undefA) (v' := undef) hx.le (by simp [undefA, undef, cv, cvs])
        refine Steps_To (Steps.one (step_lone_go (by rw [bare_oper htodo' B.mode ho hw (.inr (hnd (.inr rfl))), apply_skip hr]))) (reg_of G hk rest (j + 1) _ h' r' w' (cf.finish undef) K' (FB_finish (FB_mono hx.le B) undef) t1 t2 hd' ?_)
        show ob (opsA C.p C.gl nt ops rest (putA nt tm o.dst undefA) h') _ = some s'
        rw [show opsA C.p C.gl nt ops rest (putA nt tm o.dst undefA) h' = some st from e5]
        exact e2
      | enter f a => exact acts e5
      | round l a => exact acts e5
      | defer d => exact acts e5
      | recover => exact acts e5
      | panic v => exact acts e5
    · subst hbf
      obtain ⟨t1, t2⟩ := fin (r' := r) (v := undefA) (v' := undef) r.le_refl (by simp [undefA, undef, cv, cvs])
      refine Steps_To (Steps.one (step_skip htodo' B.mode ho hw)) (reg_of G hk rest (j + 1) _ h r w (cf.finish undef) K (FB_finish B undef) t1 t2 hd' ?_)
      show ob (opsA C.p C.gl nt ops rest (putA nt tm o.dst undefA) h) _ = some s'
      rw [show opsA C.p C.gl nt ops rest (putA nt tm o.dst undefA) h = some st from e4]
      exact e2
end
end Go.Am

namespace Go.Am
open Go Go.RowKit Forc

section
variable {gl : Nat} {r : Rho} {h : AHeap} {w0 w : World} {P : Program}

/-- the abstract machine has a row that the model's has not yet -/
theorem HR.abs [Atoms] [iF : Forc] (H : HR gl r h w0 w) (l : List Value) (t : TypeId) : HR gl r (newRowA h t l false) w0 w := by
  unfold newRowA
  have old : ∀ {j : Nat} {p : PB}, r j = some p → (h.push (.cells (T.ofList l) (lenL l) t false false)).get j = h.get j := by
    intro j p hj
    rw [get_push, if_neg]
    have := H.bnd j p hj; omega
  refine ⟨?_, ?_, ?_, ?_, ?_, H.glob, H.below, H.ask, ?_⟩
  · intro j p hj
    obtain ⟨o, ho, hh⟩ := H.obj j p hj
    exact ⟨o, ho, fun ao hao => hh ao (by rw [← old hj]; exact hao)⟩
  · intro x y p q a b hx hy gx gy lx ly e
    rw [old hx] at gx
    rw [old hy] at gy
    exact H.inj x y p q a b hx hy gx gy lx ly e
  · intro j p hj
    rw [next_push]
    have := H.bnd j p hj; omega
  · intro j hj
    rw [next_push] at hj
    rw [get_push, if_neg (by omega)]
    exact H.new j (by omega)
  · intro j p a hj ga la ra
    rw [old hj] at ga
    exact H.hi j p a hj ga la ra
  · intro j c n t2 o2 ro2 k v h1 h2
    rw [get_push] at h1
    by_cases ex : j = h.next
    · simp only [ex, if_true, Option.some.injEq, AObj.cells.injEq] at h1
      obtain ⟨e1, e2, _⟩ := h1
      subst e1; subst e2
      rw [T.get_ofList] at h2
      rw [lenL_eq]
      rcases Nat.lt_or_ge k l.length with hk | hk
      · exact hk
      · simp [hk] at h2
    · simp only [ex, if_false] at h1; exact H.wf j c n t2 o2 ro2 k v h1 h2

theorem float_shape [Atoms] [iF : Forc] {p : AP} {op : Op} {tm : T Value} {v : Value} {h' : AHeap} (hk : peKind op = 2) (q : operF op p gl tm h = some (.value v, h')) : floatId op v = some h.next ∧ ∃ l t, h' = newRowA h t l false := by
  cases op with
  | alloc e =>
    obtain ⟨z, _, q1⟩ := ob_eq q
    obtain ⟨_, q2⟩ := ci_then q1
    obtain ⟨_, q3⟩ := ci_then q2
    cases q3
    exact ⟨rfl, _, _, rfl⟩
  | box e x =>
    obtain ⟨u, _, q1⟩ := ob_eq q
    obtain ⟨_, q3⟩ := ci_then q1
    cases q3
    exact ⟨rfl, _, _, rfl⟩
  | buildSlice t len parts =>
    obtain ⟨ps, _, q1⟩ := ob_eq q
    obtain ⟨v1, q2, e0⟩ := retW_eq q1
    cases e0
    obtain ⟨et, _, e1⟩ := ob_eq q2
    obtain ⟨n, _, e2⟩ := ob_eq e1
    obtain ⟨z, _, e3⟩ := ob_eq e2
    obtain ⟨_, e4⟩ := ci_then e3
    obtain ⟨cs, _, e5⟩ := ob_eq e4
    obtain ⟨_, e6⟩ := ci_then e5
    cases e6
    refine ⟨?_, _, _, rfl⟩
    have : (Nat.beq 0 0 && Nat.beq len len && Nat.beq len len) = true := by simp
    show ci (Nat.beq 0 0 && Nat.beq len len && Nat.beq len len) (some h.next) none = some h.next
    rw [this]; rfl
  | call c =>
    obtain ⟨callee, args, argTypes⟩ := c
    cases callee with
    | builtin b => cases b <;> cases hk
    | _ => cases hk
  | _ => cases hk
end

section
variable {ops : Array Oper} {done U A : List PE} {y : PE} {L : List Nat} {nt : Nat} {tm : Am.T Value}

/-- one that is put off now, and those that were -/
theorem Drw.strange [Atoms] (D : Drw ops done (y :: U) A L nt tm) (hy : y.kind ≠ 1) {x : PE} (hx : x ∈ done) (hxL : x.idx ∈ L) : dstIn y.op.dst (readsOf ops.toList x.op) = false ∧ sameDst y.op.dst x.op.dst = false := by
  obtain ⟨A', B, e⟩ := List.append_of_mem hx
  have hp := D.plan.pair (A := A') (B := B ++ y :: U) (x := x) (y := y) (by rw [e]; simp) (by simp)
  have hxk' : Nat.beq x.kind 1 = false := nbeq_f.2 (D.put x hx hxL).1
  have hyk' : Nat.beq y.kind 1 = false := nbeq_f.2 hy
  simp only [pairOk, Bool.and_eq_true, hxk', hyk', ci_false, Bool.false_or, Bool.not_eq_true'] at hp
  exact ⟨hp.2.2, hp.2.1⟩

/-- an operation that reads, or makes a row, is put off -/
theorem Drw.off [Atoms] (D : Drw ops done (y :: U) A L nt tm) (hy : y.kind ≠ 1) {d : Nat} (hd : y.op.dst = some d) (hdn : d < nt) (v : Value) (hfr : ∀ i, y.kind = 2 → floatId y.op.op v = some i → ¬ Float done L tm i) :
    Drw ops (done ++ [y]) U (y :: A) L nt (tm.set d v) ∧ (∀ x ∈ done, x.idx ∈ L → ∀ i, FloatOf (tm.set d v) x i ↔ FloatOf tm x i) := by
  have hfo : ∀ x ∈ done, x.idx ∈ L → ∀ i, FloatOf (tm.set d v) x i ↔ FloatOf tm x i := by
    intro x hx hxL i
    have hne : ∀ d', x.op.dst = some d' → d' ≠ d := by
      intro d' h1 h2
      have := (D.strange hy hx hxL).2
      rw [sameDst_iff.2 ⟨d, hd, by rw [h1, h2]⟩] at this
      cases this
    constructor
    · rintro ⟨d', u, h1, h2, h3⟩
      rw [T.get_set_ne _ _ (hne d' h1)] at h2
      exact ⟨d', u, h1, h2, h3⟩
    · rintro ⟨d', u, h1, h2, h3⟩
      exact ⟨d', u, h1, by rw [T.get_set_ne _ _ (hne d' h1)]; exact h2, h3⟩
  refine ⟨⟨by rw [List.append_assoc]; exact D.plan, D.lin, fun e he => D.rem e (List.mem_cons_of_mem _ he), ?_, ?_⟩, hfo⟩
  · intro x hx hxL
    rcases List.mem_append.1 hx with hx | hx
    · obtain ⟨a, b, c⟩ := D.put x hx hxL
      exact ⟨a, List.mem_cons_of_mem _ b, c⟩
    · rw [List.mem_singleton] at hx
      subst hx
      exact ⟨hy, by simp, d, hd, hdn⟩
  · have self : ∀ i, y.kind = 2 → FloatOf (tm.set d v) y i → ¬ Float done L tm i := by
      rintro i hk ⟨d', u, h1, h2, h3⟩
      rw [hd] at h1; cases h1
      rw [T.get_set_same] at h2; cases h2
      exact hfr i hk h3
    intro x hx z hz h1 h2 h3 h4 i h5 h6
    rcases List.mem_append.1 hx with hx1 | hx1
    · rcases List.mem_append.1 hz with hz1 | hz1
      · exact D.inj x hx1 z hz1 h1 h2 h3 h4 i ((hfo x hx1 h1 i).1 h5) ((hfo z hz1 h2 i).1 h6)
      · rw [List.mem_singleton] at hz1
        rw [hz1] at h4 h6
        exact absurd ⟨x, hx1, h1, h3, (hfo x hx1 h1 i).1 h5⟩ (self i h4 h6)
    · rw [List.mem_singleton] at hx1
      rw [hx1] at h3 h5
      rcases List.mem_append.1 hz with hz1 | hz1
      · exact absurd ⟨z, hz1, h2, h4, (hfo z hz1 h2 i).1 h6⟩ (self i h3 h5)
      · rw [List.mem_singleton] at hz1
        rw [hx1, hz1]

theorem Drw.offTR [Atoms] {r : Rho} {ct : Array Value} (D : Drw ops done (y :: U) A L nt tm) (ht : TR r (Pend done L) nt tm ct) {d : Nat} (hd : y.op.dst = some d) (v : Value) : TR r (Pend (done ++ [y]) L) nt (tm.set d v) ct := by
  refine ⟨ht.1, ?_⟩
  intro t u hp hu
  have hyL := D.rem y (by simp)
  have hne : t ≠ d := fun e => hp ⟨y, List.mem_append_right _ (by simp), hyL, by rw [e]; exact hd⟩
  rw [T.get_set_ne _ _ hne] at hu
  exact ht.2 t u (fun ⟨x, a, b, c⟩ => hp ⟨x, List.mem_append_left _ a, b, c⟩) hu

theorem eval_set {gl : Nat} {x : Operand} {d : Nat} {v : Value} (h : x ≠ .tmp d) : evalA (tm.set d v) gl x = evalA tm gl x := by
  cases x with
  | tmp t =>
    have : t ≠ d := fun e => h (by rw [e])
    exact T.get_set_ne _ _ this
  | _ => rfl

/-- it yields the same still, once another temporary is set -/
theorem Same_set [Atoms] [iF : Forc] {C : Cfg} {h : AHeap} {q : PE} (hq : q.kind = 2 → peKind q.op.op = 2) {d : Nat} {v : Value} (h1 : dstIn (some d) (readsOf ops.toList q.op) = false) (h2 : q.op.dst ≠ some d) (k : Same C ops h tm q) : Same C ops h (tm.set d v) q := by
  have hr : d ∉ readsOf ops.toList q.op := by
    intro h
    rw [dstIn_iff.2 ⟨d, rfl, h⟩] at h1; cases h1
  have hev : ∀ x ∈ q.op.op.operands.toList, evalA (tm.set d v) C.gl x = evalA tm C.gl x := by
    intro x hx
    refine eval_set (fun e => hr ?_)
    rw [e] at hx
    exact reads_op hx
  have hw : wantedA ops (tm.set d v) q.op = wantedA ops tm q.op := by
    refine wanted_congr ?_
    intro j w g d' hg h3 h4
    refine T.get_set_ne _ _ (fun e => hr ?_)
    rw [← e]
    exact reads_guard hg h3 h4
  obtain ⟨d', u, b, k1, k2, k3, k4, k5, k6⟩ := k
  refine ⟨d', u, b, k1, ?_, by rw [hw]; exact k3, k4, ?_, ?_⟩
  · rw [T.get_set_ne _ _ (fun e => h2 (by rw [k1, e]))]; exact k2
  · intro hb hk; rw [quiet_congr hev]; exact k5 hb hk
  · intro hb hk; rw [float_congr (hq hk) hev]; exact k6 hb hk
end
end Go.Am

namespace Go.Am
open Go Go.RowKit Forc

section
variable {P : Program} {C : Cfg} {cs0 : List Frame} {w0 : World} {fn : FuncId} {df : List Deferred} {kd : CallKind} {ro : Option Nat}

theorem Ctx.caught [Atoms] {gl : Nat} {r r' : Rho} {h : AHeap} {cs : List AFrame} {ccs : List Frame} {fl fl' fls : Nat → Prop} {w w' : World} (K : Ctx gl r h cs ccs fl fls w0 w) (hle : r.le r') (hk : ∀ i, ¬ fl i → r' i = r i)
    (H : HR gl r' h w0 w') (hf : ∀ i, fl' i → r' i = none ∧ fl i) : Ctx gl r' h cs ccs fl' fls w0 w' where
  hr := H
  csr := CSR_mono hle K.csr
  f1 := fun i hi => by
    obtain ⟨a, b⟩ := hf i hi
    obtain ⟨_, c, d⟩ := K.f1 i b
    exact ⟨a, c, d⟩
  f2 := fun i hi => by
    obtain ⟨a, b⟩ := K.f2 i hi
    exact ⟨by rw [hk i (fun h => (K.f1 i h).2.2 hi)]; exact a, b⟩

theorem defer_out [iF : Forc] {_ops : Array Oper} {tm : T Value} {h h' : AHeap} {o : Oper} {n : ANext} {c : Call} (hc : o.op = .defer c) {p : AP} {gl : Nat} (hop : operF o.op p gl tm h = some (n, h')) : ∃ d, n = .defer d := by
  rw [hc] at hop
  obtain ⟨callee, args, argTypes⟩ := c
  cases callee with
  | value f =>
    obtain ⟨fv, _, q1⟩ := ob_eq (show deferF ⟨.value f, args, argTypes⟩ p gl tm h = some (n, h') from hop)
    obtain ⟨vs, _, q2⟩ := ob_eq q1
    cases fv with
    | func _ _ _ => cases q2; exact ⟨_, rfl⟩
    | _ => cases q2
  | _ => cases hop

theorem enter_heap [Atoms] [iF : Forc] {o : Oper} {tm : T Value} {h h' : AHeap} {p : AP} {gl : Nat} {f : FuncId} {args : List Value} (hop : operF o.op p gl tm h = some (.enter f args, h')) : h' = h := by
  obtain ⟨dst, op, type, pos, after, guard⟩ := o
  have hv : ∀ {x : Option Value}, retV x h = some (.enter f args, h') → h' = h := by
    intro x hx
    obtain ⟨v, _, e1⟩ := ob_eq hx
    cases e1
  have hw : ∀ {x : Option (Value × AHeap)}, retW x = some (.enter f args, h') → h' = h := by
    intro x hx
    obtain ⟨v, _, _, e1⟩ := op2_eq hx
    cases e1
  have hh : ∀ {x : Option AHeap}, retH x = some (.enter f args, h') → h' = h := by
    intro x hx
    obtain ⟨v, _, e1⟩ := ob_eq hx
    cases e1
  cases op with
  | call c =>
    obtain ⟨callee, as, argTypes⟩ := c
    have q0 : callF ⟨callee, as, argTypes⟩ p gl tm h = some (.enter f args, h') := hop
    cases callee with
    | value g =>
      obtain ⟨fv, _, q1⟩ := ob_eq q0
      obtain ⟨vs, _, q2⟩ := ob_eq q1
      obtain ⟨m, _, q3⟩ := ob_eq q2
      cases q3; rfl
    | invoke g name =>
      obtain ⟨fv, _, q1⟩ := ob_eq q0
      obtain ⟨vs, _, q2⟩ := ob_eq q1
      obtain ⟨m, _, q3⟩ := ob_eq q2
      cases q3; rfl
    | builtin b =>
      obtain ⟨vs, _, q1⟩ := ob_eq q0
      cases b with
      | append => exact hw q1
      | copy => exact hw q1
      | clear => exact hw q1
      | delete =>
        have q2 : (one argTypes.toList fun t => two vs fun m k => ob (deleteA p h t m k) fun h => some (ANext.value (.tuple #[]), h)) = some (.enter f args, h') := q1
        cases hts : argTypes.toList with
        | nil => rw [hts] at q2; cases q2
        | cons t ts =>
          rw [hts] at q2
          cases vs with
          | nil => cases q2
          | cons m vs => cases vs with
            | nil => cases q2
            | cons k vs =>
              obtain ⟨h2, q3, q4⟩ := ob_eq (show ob (deleteA p h t m k) (fun h => some (ANext.value (.tuple #[]), h)) = some (ANext.enter f args, h') from q2)
              cases q4
      | recover => cases q1
      | len => exact hv q1
      | cap => exact hv q1
      | min => exact hv q1
      | max => exact hv q1
      | _ => cases q1
  | alloc e =>
    obtain ⟨z, _, q1⟩ := ob_eq hop
    obtain ⟨_, q2⟩ := ci_then q1
    obtain ⟨_, q3⟩ := ci_then q2
    cases q3
  | box e x =>
    obtain ⟨u, _, q1⟩ := ob_eq hop
    obtain ⟨_, q3⟩ := ci_then q1
    cases q3
  | buildSlice t len parts =>
    obtain ⟨ps, _, q1⟩ := ob_eq hop
    exact hw q1
  | store t a x =>
    obtain ⟨av, _, q1⟩ := ob_eq hop
    obtain ⟨v, _, q2⟩ := ob_eq q1
    cases av with
    | pointer a0 =>
      obtain ⟨a0, e1, q3⟩ := ob_eq (show ob a0 _ = some (ANext.enter f args, h') from q2)
      exact hh q3
    | _ => cases q2
  | makeMap t res =>
    cases res with
    | none => cases hop
    | some x =>
      obtain ⟨d, _, q1⟩ := ob_eq hop
      obtain ⟨_, q2⟩ := ci_then q1
      obtain ⟨u, _, q3⟩ := ob_eq q2
      obtain ⟨m, _, q4⟩ := ob_eq q3
      cases q4
  | makeSlice t l c =>
    obtain ⟨lv, _, q1⟩ := ob_eq hop
    obtain ⟨cv', _, q2⟩ := ob_eq q1
    exact hw q2
  | mapUpdate t m k x =>
    obtain ⟨mv, _, q1⟩ := ob_eq hop
    obtain ⟨kv, _, q2⟩ := ob_eq q1
    obtain ⟨xv, _, q3⟩ := ob_eq q2
    exact hh q3
  | insert t m k x =>
    obtain ⟨mv, _, q1⟩ := ob_eq hop
    obtain ⟨kv, _, q2⟩ := ob_eq q1
    obtain ⟨xv, _, q3⟩ := ob_eq q2
    exact hh q3
  | convert s d x =>
    obtain ⟨xv, _, q1⟩ := ob_eq hop
    exact hw q1
  | range t x =>
    obtain ⟨d, _, q1⟩ := ob_eq hop
    obtain ⟨xv, _, q2⟩ := ob_eq q1
    cases d with
    | string => cases xv with
      | string s => cases q2
      | _ => cases q2
    | map kt et => cases xv with
      | map m => cases m with
        | none => cases q2
        | some i =>
          obtain ⟨es, clock, _, q3⟩ := onMap_eq (show onMap (h.get i) _ = some (ANext.enter f args, h') from q2)
          cases q3
      | _ => cases q2
    | _ => cases q2
  | next it st =>
    obtain ⟨xv, _, q1⟩ := ob_eq hop
    obtain ⟨b, _, q2⟩ := iterOf_eq q1
    obtain ⟨o, _, q4⟩ := ob_eq q2
    cases o with
    | strIter s pos =>
      obtain ⟨_, q5⟩ := ci_then (show ci st (stepS h b pos s) none = some (ANext.enter f args, h') from q4)
      cases s with
      | nil => cases q5
      | cons c l =>
        obtain ⟨_, q6⟩ := ci_then q5
        rw [fN_eq, fN_eq] at q6
        cases q6
    | mapIter m since seen last =>
      obtain ⟨_, q5⟩ := ci_else (show ci st none (nextM h b since seen last m) = some (ANext.enter f args, h') from q4)
      cases m with
      | none => cases q5
      | some i =>
        obtain ⟨es, clock, _, q6⟩ := onMap_eq (show onMap (h.get i) _ = some (ANext.enter f args, h') from q5)
        obtain ⟨_, q7⟩ := ci_then q6
        cases hl : leftOf seen es with
        | nil => rw [hl] at q7; cases q7
        | cons e l =>
          rw [hl] at q7
          cases l with
          | nil => cases q7
          | cons _ _ => cases q7
    | _ => cases q4
  | entry it =>
    obtain ⟨xv, _, q1⟩ := ob_eq hop
    obtain ⟨b, _, q2⟩ := iterOf_eq q1
    obtain ⟨o, _, q4⟩ := ob_eq q2
    cases o with
    | mapIter m since seen last =>
      obtain ⟨i, _, q5⟩ := ob_eq (show ob m (fun m => entryB h m last seen) = some (ANext.enter f args, h') from q4)
      cases seen with
      | nil => cases q5
      | cons s seen =>
        obtain ⟨es, clock, _, q6⟩ := onMap_eq (show onMap (h.get i) _ = some (ANext.enter f args, h') from q5)
        obtain ⟨_, q7⟩ := ci_then q6
        obtain ⟨e, _, q8⟩ := ob_eq q7
        cases q8
    | _ => cases q4
  | defer c =>
    obtain ⟨callee, as, argTypes⟩ := c
    have q0 : deferF ⟨callee, as, argTypes⟩ p gl tm h = some (.enter f args, h') := hop
    cases callee with
    | value g =>
      obtain ⟨fv, _, q1⟩ := ob_eq q0
      obtain ⟨vs, _, q2⟩ := ob_eq q1
      cases fv with
      | func fn first cap => cases q2
      | _ => cases q2
    | _ => cases q0
  | panic x =>
    obtain ⟨xv, _, q1⟩ := ob_eq hop
    cases xv with
    | iface t y => cases q1
    | _ => cases q1
  | move x => exact hv hop
  | assign x => exact hv hop
  | pick c a b => exact hv hop
  | build t parts => exact hv hop
  | load t a => exact hv hop
  | nilCheck x => exact hv hop
  | binOp op t x y ty => exact hv hop
  | unOp op t x => exact hv hop
  | sliceToArrayPointer arr x => exact hv hop
  | makeInterface t x => exact hv hop
  | makeFunc fn first cap => exact hv hop
  | slice t x lo hi mx => exact hv hop
  | fieldAddr t x f => exact hv hop
  | field t x f => exact hv hop
  | indexAddr t x i => exact hv hop
  | index t x i => exact hv hop
  | lookup t x i ok => exact hv hop
  | typeAssert x xt a ok => exact hv hop
  | extract x i => exact hv hop
  | _ => cases hop

/-- what stands first in a drawn region has yielded its value, and what was put off is known to be untouched -/
theorem finishD [Atoms] [iF : Forc] {nt : Nat} {ops : Array Oper} {tm : T Value} {cf : Frame} {fl : Nat → Prop} {k0 : List AItem} {v v' : Value} {done R A : List PE} {e0 : PE} {L' : List Nat} {ck : List Item} {h : AHeap} {r : Rho}
    (k1 : cf.todo = .inRegion ops (e0.idx :: L') :: ck) (k2 : plainC k0 = some ck) (D : Drw ops done (e0 :: R) A (e0.idx :: L') nt tm) (k4 : TR r (Pend done (e0.idx :: L')) nt tm cf.tmps) (k5 : ∀ i, fl i ↔ Float done (e0.idx :: L') tm i)
    (hv : cv r v = some v') (hag : ∀ x ∈ done, x.idx ∈ e0.idx :: L' → Same C ops h (putA nt tm e0.op.dst v) x) :
    ∃ fl', TodoR r (XTop C h) nt (putA nt tm e0.op.dst v) (cf.finish v').tmps fl' (.draw ops R (dropPreds e0.preds A) :: k0) (cf.finish v').todo ∧ ∀ i, fl' i → fl i := by
  have he : e0 ∈ done ++ e0 :: R := List.mem_append_right _ (by simp)
  obtain ⟨ho, _, _⟩ := D.plan.entry he
  have nd := D.plan.nodup
  rw [List.map_append, List.nodup_append] at nd
  have hne : ∀ x ∈ done, x.idx ≠ e0.idx := fun x hx hi => nd.2.2 _ (List.mem_map.2 ⟨x, hx, rfl⟩) _ (List.mem_map.2 ⟨e0, by simp, rfl⟩) hi
  have hpe : ∀ x ∈ done ++ [e0], x.idx ∈ L' → x ∈ done ∧ x.idx ∈ e0.idx :: L' := by
    intro x hx hxL
    rcases List.mem_append.1 hx with hx | hx
    · exact ⟨hx, List.mem_cons_of_mem _ hxL⟩
    · rw [List.mem_singleton] at hx
      subst hx
      exact absurd hxL D.headOut
  have hds : ∀ x ∈ done, x.idx ∈ e0.idx :: L' → ∀ d, x.op.dst = some d → e0.op.dst ≠ some d := by
    intro x hx hxL d hd h0
    have hxe : x ≠ e0 := fun e => hne x hx (by rw [e])
    have := (D.apart hx hxL rfl hxe (.inr ⟨R, rfl⟩)).2
    rw [sameDst_iff.2 ⟨d, h0, hd⟩] at this
    cases this
  have hfo : ∀ x ∈ done, x.idx ∈ e0.idx :: L' → ∀ i, FloatOf (putA nt tm e0.op.dst v) x i → FloatOf tm x i := by
    rintro x hx hxL i ⟨d, u, h1, h2, h3⟩
    rw [T.put_ne (hds x hx hxL d h1)] at h2
    exact ⟨d, u, h1, h2, h3⟩
  have hD : Drw ops (done ++ [e0]) R (dropPreds e0.preds A) L' nt (putA nt tm e0.op.dst v) := by
    refine ⟨by rw [List.append_assoc]; exact D.plan, ?_, ?_, ?_, ?_⟩
    · obtain ⟨L0, hl⟩ := D.lin
      exact ⟨L0 ++ [e0.idx], by rw [List.append_assoc]; exact hl⟩
    · intro x hx
      rcases List.mem_cons.1 (D.rem x (List.mem_cons_of_mem _ hx)) with h1 | h1
      · exfalso
        have := nd.2.1
        simp only [List.map_cons] at this
        exact (List.nodup_cons.1 this).1 (List.mem_map.2 ⟨x, hx, h1⟩)
      · exact h1
    · intro x hx hxL
      obtain ⟨h1, h2⟩ := hpe x hx hxL
      obtain ⟨a, b, c⟩ := D.put x h1 h2
      exact ⟨a, mem_dropPreds b (D.noPred he rfl h2), c⟩
    · intro x hx y hy h1 h2 h3 h4 i h5 h6
      obtain ⟨a1, a2⟩ := hpe x hx h1
      obtain ⟨b1, b2⟩ := hpe y hy h2
      exact D.inj x a1 y b1 a2 b2 h3 h4 i (hfo x a1 a2 i h5) (hfo y b1 b2 i h6)
  refine ⟨Float (done ++ [e0]) L' (putA nt tm e0.op.dst v), ⟨done ++ [e0], L', ck, ?_, k2, hD, ?_, fun _ => Iff.rfl, ?_⟩, ?_⟩
  · simp only [Frame.finish, k1]
  · have e1 : (cf.finish v').tmps = (match e0.op.dst with | some d => cf.tmps.setIfInBounds d v' | none => cf.tmps) := by
      simp only [Frame.finish, k1, ho, Option.bind_some]
      cases e0.op.dst <;> rfl
    rw [e1]
    refine TR_weaken (TR_put k4 hv) ?_
    rintro t ⟨x, hx, hxL, hd⟩
    rcases List.mem_cons.1 hxL with h1 | h1
    · exact absurd h1 (hne x hx)
    · exact ⟨x, List.mem_append_left _ hx, h1, hd⟩
  · intro x hx hxL
    obtain ⟨h1, h2⟩ := hpe x hx hxL
    exact hag x h1 h2
  · rintro i ⟨x, hx, hxL, hk, hf⟩
    obtain ⟨h1, h2⟩ := hpe x hx hxL
    exact (k5 i).2 ⟨x, h1, h2, hk, hfo x h1 h2 i hf⟩

/-- **A REGION WHOSE ORDER WAS DRAWN** -/
theorem draw_of [Atoms] [iF : Forc] (G : Good P C) {nt : Nat} {ops : Array Oper} {k : List AItem} {ck : List Item} {cs : List AFrame} {ccs : List Frame} {fl fls : Nat → Prop} {s' : AState} (hk : plainC k = some ck)
    {R A done : List PE} {L : List Nat} {tm : T Value} {h : AHeap} {r : Rho} {w : World} {cf : Frame} (K : Ctx C.gl r h cs ccs fl fls w0 w) (B : FB r fn df kd ro cf) (D : Drw ops done R A L nt tm)
    (ht : TR r (Pend done L) nt tm cf.tmps) (hfl : ∀ i, fl i ↔ Float done L tm i) (hS : XTop C h ops done R A L tm) (htodo : cf.todo = .inRegion ops L :: ck)
    (e : drawK ops R A k C fn nt tm df kd ro cs h = some s') : To P C cs0 w0 cf ccs w s' := by
  cases R with
  | nil =>
    have e1 : some (⟨⟨fn, nt, tm, k, df, .run, kd, ro⟩, cs, h⟩ : AState) = some s' := e
    cases e1
    obtain ⟨r', w', ct, L', a1, a2, a3, a4, a5, a6, a7, a8, a9, a10⟩ := catchUp (cs := ccs ++ cs0) (ck := ck) G.p (.inl rfl) L r w cf D ht hS K.hr (fun i hi => (K.f1 i ((hfl i).2 hi)).1) htodo B.mode
    have hL := a9 rfl
    subst hL
    have K' := K.caught (fl' := fun _ => False) a2 (fun i hi => a3 i (fun h => hi ((hfl i).2 h))) a5 (fun _ h => h.elim)
    have ht' : TR r' (fun _ => False) nt tm ct := TR_weaken a7 (by rintro t ⟨q, _, hq, _⟩; cases hq)
    refine ⟨_, ccs, w', Steps.trans a1 (Steps.one (step_end rfl B.mode)), r', fun _ => False, fls, K', ?_⟩
    exact (FB_todo (FB_with (FB_mono a2 B) ct _) ck).fr (TodoR_plain ht' (fun _ h => h) hk)
  | cons y U =>
    obtain ⟨b, hb, e1⟩ := ob_eq (show ob (wantedA ops tm y.op) _ = some s' from e)
    have hyl : y ∈ done ++ y :: U := List.mem_append_right _ (by simp)
    obtain ⟨hyo, hyk, _⟩ := D.plan.entry hyl
    have hyL := D.rem y (by simp)
    -- one that is put off
    have putOff : ∀ {d : Nat} {v : Value} {h' : AHeap} {fl' : Nat → Prop}, y.kind ≠ 1 → y.op.dst = some d → d < nt → (∀ i, y.kind = 2 → floatId y.op.op v = some i → ¬ Float done L tm i) →
        Ctx C.gl r h' cs ccs fl' fls w0 w → (∀ i, fl' i ↔ Float (done ++ [y]) L (tm.set d v) i) → XTop C h' ops (done ++ [y]) U (y :: A) L (tm.set d v) →
        s' = ⟨⟨fn, nt, tm.set d v, .draw ops U (y :: A) :: k, df, .run, kd, ro⟩, cs, h'⟩ → To P C cs0 w0 cf ccs w s' := by
      intro d v h' fl' hk1 hd hdn hfr K' hfl' hX es
      subst es
      obtain ⟨D', _⟩ := D.off hk1 hd hdn v hfr
      refine ⟨cf, ccs, w, Steps.refl _ _, r, fl', fls, K', B.fr (nt := nt) (tm := tm.set d v) (todo := .draw ops U (y :: A) :: k) ⟨done ++ [y], L, ck, htodo, hk, D', D.offTR ht hd v, hfl', hX⟩⟩
    -- what was put off ahead of it is untouched
    have keep : ∀ {d : Nat} {v : Value}, y.kind ≠ 1 → y.op.dst = some d → ∀ q ∈ done, q.idx ∈ L → Same C ops h (tm.set d v) q := by
      intro d v hk1 hd q hq hqL
      obtain ⟨s1, s2⟩ := D.strange hk1 hq hqL
      rw [hd] at s1
      refine Same_set (fun hk2 => ?_) s1 (fun h0 => ?_) (hS q hq hqL)
      · rw [← (D.plan.entry (List.mem_append_left _ hq)).2.1]; exact hk2
      · rw [sameDst_iff.2 ⟨d, hd, h0⟩] at s2; cases s2
    have self : ∀ {d : Nat}, y.kind ≠ 1 → y.op.dst = some d → d ∉ readsOf ops.toList y.op := by
      intro d hk1 hd hm
      rcases D.plan.self hyl with h | h
      · exact hk1 h
      · rw [dstIn_iff.2 ⟨d, hd, hm⟩] at h; cases h
    have selfW : ∀ {d : Nat} {v : Value}, y.kind ≠ 1 → y.op.dst = some d → wantedA ops (tm.set d v) y.op = wantedA ops tm y.op := by
      intro d v hk1 hd
      refine wanted_congr ?_
      intro j w g d' hg h3 h4
      refine T.get_set_ne _ _ (fun e => self hk1 hd ?_)
      rw [← e]; exact reads_guard hg h3 h4
    -- the rows that float
    have floats : ∀ {d : Nat} {v : Value}, y.kind ≠ 1 → y.op.dst = some d → d < nt → (∀ i, y.kind = 2 → floatId y.op.op v = some i → ¬ Float done L tm i) →
        ∀ i, Float (done ++ [y]) L (tm.set d v) i ↔ fl i ∨ (y.kind = 2 ∧ floatId y.op.op v = some i) := by
      intro d v hk1 hd hdn hfr i
      obtain ⟨_, hfo⟩ := D.off hk1 hd hdn v hfr
      constructor
      · rintro ⟨x, hx, hxL, hxk, hxf⟩
        rcases List.mem_append.1 hx with hx | hx
        · exact .inl ((hfl i).2 ⟨x, hx, hxL, hxk, (hfo x hx hxL i).1 hxf⟩)
        · rw [List.mem_singleton] at hx
          rw [hx] at hxk hxf
          obtain ⟨d', u, h1, h2, h3⟩ := hxf
          rw [hd] at h1; cases h1
          rw [T.get_set_same] at h2; cases h2
          exact .inr ⟨hxk, h3⟩
      · rintro (hi | ⟨h1, h2⟩)
        · obtain ⟨x, hx, hxL, hxk, hxf⟩ := (hfl i).1 hi
          exact ⟨x, List.mem_append_left _ hx, hxL, hxk, (hfo x hx hxL i).2 hxf⟩
        · exact ⟨y, List.mem_append_right _ (by simp), hyL, h1, d, v, hd, T.get_set_same _ _ _, h2⟩
    have extend : ∀ {d : Nat} {v : Value}, (∀ q ∈ done, q.idx ∈ L → Same C ops h (tm.set d v) q) → Same C ops h (tm.set d v) y → XTop C h ops (done ++ [y]) U (y :: A) L (tm.set d v) := by
      intro d v h1 h2 q hq hqL
      rcases List.mem_append.1 hq with hq | hq
      · exact h1 q hq hqL
      · rw [List.mem_singleton] at hq
        rw [hq]; exact h2
    rcases ci_some (c := Nat.beq y.kind 1) (a := some ()) (b := some ()) (x := ()) (by cases Nat.beq y.kind 1 <;> rfl) with ⟨hk1, _⟩ | ⟨hk1, _⟩
    · -- it acts
      obtain ⟨r', w', ct, L', a1, a2, a3, a4, a5, a6, a7, a8, _, a10⟩ := catchUp (cs := ccs ++ cs0) (ck := ck) G.p (.inr ⟨y, U, rfl, nbeq.1 hk1⟩) L r w cf D ht hS K.hr (fun i hi => (K.f1 i ((hfl i).2 hi)).1) htodo B.mode
      obtain ⟨L2, hL2⟩ := a10 y U rfl
      subst hL2
      have K' := K.caught (fl' := Float done (y.idx :: L2) tm) a2 (fun i hi => a3 i (fun h => hi ((hfl i).2 h))) a5 (fun i hi => ⟨(a4 i hi).1, (hfl i).2 (a4 i hi).2⟩)
      have B' := FB_with (FB_mono a2 B) ct (.inRegion ops (y.idx :: L2) :: ck)
      have hw : Region.wanted y.op (yielded ops ct) = b :=
        wanted_of a7 (fun j w g d hg h1 h2 => a6.sees rfl (.inr ⟨U, rfl⟩) (reads_guard hg h1 h2)) hb
      refine Steps_To a1 ?_
      have F' : ∀ {r2 : Rho}, r'.le r2 → FR r2 XHead ⟨fn, nt, tm, .draw ops (y :: U) A :: k, df, .run, kd, ro⟩ { cf with tmps := ct, todo := .inRegion ops (y.idx :: L2) :: ck } (Float done (y.idx :: L2) tm) := by
        intro r2 hle
        exact (FB_mono hle B').fr (X := XHead) (nt := nt) (tm := tm) (todo := .draw ops (y :: U) A :: k) ⟨done, y.idx :: L2, ck, rfl, hk, a6, TR_mono hle a7, fun _ => Iff.rfl, y, U, L2, rfl, rfl⟩
      cases b with
      | true =>
        have e2 : op2 (operF y.op.op C.p C.gl tm h) (fun n h' => (match purH C y.op.op n with
            | some v => some (⟨⟨fn, nt, putA nt tm y.op.dst v, .draw ops U (dropPreds y.preds A) :: k, df, .run, kd, ro⟩, cs, h'⟩ : AState)
            | none => act C ⟨fn, nt, tm, .draw ops (y :: U) A :: k, df, .run, kd, ro⟩ cs h' n)) = some s' := by
          have := e1
          rw [ci_true, hk1, ci_true] at this
          exact this
        obtain ⟨n, h', hop, e3⟩ := op2_eq e2
        have hev : EV r' tm C.gl ({ cf with tmps := ct, todo := .inRegion ops (y.idx :: L2) :: ck } : Frame).eval y.op.op.operands.toList := ev_of (cf := { cf with tmps := ct, todo := .inRegion ops (y.idx :: L2) :: ck }) a5 a7 (fun t ht2 => a6.sees rfl (.inr ⟨U, rfl⟩) (reads_op ht2))
        have hop' := hop
        rw [G.p] at hop'
        obtain ⟨r2, w2, hx, H2, hout⟩ := oper_sound (P := P) a5 y.op hev hop'
        have hround : cf.roundOf = none ∨ ∀ c, y.op.op ≠ .defer c := by
          have hR := B.round
          cases ro with
          | none => exact .inl hR
          | some l =>
            refine .inr (fun c hc => ?_)
            obtain ⟨d, hn⟩ := defer_out (_ops := ops) hc hop
            rw [hn] at e3
            cases e3
        cases hpu : purH C y.op.op n with
        | some u =>
          rw [hpu] at e3
          have hag : ∀ q ∈ done, q.idx ∈ y.idx :: L2 → Same C ops h (putA nt tm y.op.dst u) q := by
            intro q hq hqL
            have hS1 := a8 q hq hqL
            cases hd : y.op.dst with
            | none => exact hS1
            | some d =>
              unfold putA
              simp only
              cases hbl : Nat.blt d nt with
              | false => exact hS1
              | true =>
                rw [ci_true]
                have hqk : ¬ q.kind = 1 := (a6.put q hq hqL).1
                have hnp : memN q.idx y.preds = false := by
                  cases hm : memN q.idx y.preds with
                  | false => rfl
                  | true => exact absurd (memN_iff.1 hm) (a6.noPred hyl rfl hqL)
                obtain ⟨A1, B1, eA⟩ := List.append_of_mem hq
                have hp := a6.plan.pair (A := A1) (B := B1 ++ y :: U) (x := q) (y := y) (by rw [eA]; simp) (by simp)
                have hyk1 : Nat.beq y.kind 1 = true := hk1
                have hqk1 : Nat.beq q.kind 1 = false := nbeq_f.2 hqk
                simp only [pairOk, Bool.and_eq_true, hyk1, hqk1, hnp, ci_true, Bool.false_or, Bool.or_false, Bool.not_eq_true', Bool.or_eq_false_iff] at hp
                refine Same_set (fun hk2 => ?_) (by rw [← hd]; exact hp.2.1) (fun h0 => ?_) hS1
                · rw [← (a6.plan.entry (List.mem_append_left _ hq)).2.1]; exact hk2
                · have := hp.2.2
                  rw [sameDst_iff.2 ⟨d, hd, h0⟩] at this; cases this
          have e3 : some (⟨⟨fn, nt, putA nt tm y.op.dst u, .draw ops U (dropPreds y.preds A) :: k, df, .run, kd, ro⟩, cs, h'⟩ : AState) = some s' := e3
          cases e3
          cases n with
          | enter f args =>
            obtain ⟨g, hg, hgu⟩ := ob_eq (show ob (C.pur.get f) (fun g => g args) = some u from hpu)
            obtain ⟨hla, hlu, hrun⟩ := G.pur f g hg args u hgu
            have hh := enter_heap hop
            subst hh
            obtain ⟨cargs, hca, hr⟩ := hout
            rw [lits_cv r2 4 args hla] at hca
            cases hca
            obtain ⟨w3, hb3, hr3, st3⟩ := hrun w2 { cf with tmps := ct, todo := .inRegion ops (y.idx :: L2) :: ck } (ccs ++ cs0)
            have H3 := H2.later hb3
            have K3 := K'.step hx (operF_next hop) H3
            obtain ⟨fl', T3, hsub3⟩ := finishD (C := C) (h := h') (r := r2) (cf := { cf with tmps := ct, todo := .inRegion ops (y.idx :: L2) :: ck }) (fl := Float done (y.idx :: L2) tm) (v := u) (v' := u) rfl hk a6 (TR_mono hx.le a7) (fun _ => Iff.rfl) (lit_spec hlu) hag
            have hbare := bare_oper (P := P) (w := w') (cf := { cf with tmps := ct, todo := .inRegion ops (y.idx :: L2) :: ck }) (cs := ccs ++ cs0) rfl B.mode hyo hw hround
            have hnoc : ∀ d w re sv k, ({ cf with tmps := ct, todo := .inRegion ops (y.idx :: L2) :: ck } : Frame).todo ≠ .call d w re sv :: k := by
              intro _ _ _ _ _ hh; cases hh
            obtain ⟨f1, f2, f3, f4, f5⟩ := finish_fields ({ cf with tmps := ct, todo := .inRegion ops (y.idx :: L2) :: ck } : Frame) u
            have Fh := F' hx.le
            exact ⟨_, ccs, w3, .head (step_lone_go (by rw [hbare, apply_enter hnoc (hr.trans hr3)])) st3, r2, fl', fls, K3.sub hsub3, f1.trans Fh.fn, f2.trans Fh.kind, by rw [f3]; exact Fh.round, by rw [f4]; exact Fh.mode, by rw [f5]; exact Fh.defers, fun _ => T3, fun h => absurd rfl h⟩
          | value v =>
            obtain ⟨x, hx0, ev⟩ : ∃ x, y.op.op = .assign x ∧ v = u := by
              cases hy : y.op.op with
              | assign x => rw [hy] at hpu; cases hpu; exact ⟨x, rfl, rfl⟩
              | _ => rw [hy] at hpu; cases hpu
            subst ev
            have hh : h' = h := by
              rw [hx0] at hop
              obtain ⟨_, _, e9⟩ := ob_eq (show retV (evalA tm C.gl x) h = some (.value v, h') from hop)
              cases e9; rfl
            subst hh
            obtain ⟨v', hv', hr⟩ := hout
            obtain ⟨fl', T3, hsub3⟩ := finishD (C := C) (h := h') (r := r2) (cf := { cf with tmps := ct, todo := .inRegion ops (y.idx :: L2) :: ck }) (fl := Float done (y.idx :: L2) tm) (v := v) (v' := v') rfl hk a6 (TR_mono hx.le a7) (fun _ => Iff.rfl) hv' hag
            have hbare := bare_oper (P := P) (w := w') (cf := { cf with tmps := ct, todo := .inRegion ops (y.idx :: L2) :: ck }) (cs := ccs ++ cs0) rfl B.mode hyo hw hround
            obtain ⟨f1, f2, f3, f4, f5⟩ := finish_fields ({ cf with tmps := ct, todo := .inRegion ops (y.idx :: L2) :: ck } : Frame) v'
            have Fh := F' hx.le
            have K3 := K'.step hx (operF_next hop) H2
            exact ⟨_, ccs, w2, Steps.one (step_lone_go (by rw [hbare, apply_value hr])), r2, fl', fls, K3.sub hsub3, f1.trans Fh.fn, f2.trans Fh.kind, by rw [f3]; exact Fh.round, by rw [f4]; exact Fh.mode, by rw [f5]; exact Fh.defers, fun _ => T3, fun h => absurd rfl h⟩
          | _ => cases hpu
        | none =>
        rw [hpu] at e3
        exact act_of G (K'.step hx (operF_next hop) H2) (F' hx.le) rfl hout (bare_oper (cf := { cf with tmps := ct, todo := .inRegion ops (y.idx :: L2) :: ck }) rfl B.mode hyo hw hround) e3
      | false =>
        have e2 : ob (finishA C h ⟨fn, nt, tm, .draw ops (y :: U) A :: k, df, .run, kd, ro⟩ undefA) (fun fr => some (⟨fr, cs, h⟩ : AState)) = some s' := by
          have := e1
          rw [ci_false, hk1, ci_true] at this
          exact this
        obtain ⟨fr', e3, e4⟩ := ob_eq e2
        cases e4
        exact goOn K' (F' r'.le_refl) (v' := undef) (by simp [undefA, undef, cv, cvs]) e3 (step_skip (cf := { cf with tmps := ct, todo := .inRegion ops (y.idx :: L2) :: ck }) rfl B.mode hyo hw)
    · have hkn : y.kind ≠ 1 := nbeq_f.1 hk1
      cases b with
      | false =>
        have e2 : ob y.op.dst (fun d => ci (Nat.blt d nt) (some (⟨⟨fn, nt, tm.set d undefA, .draw ops U (y :: A) :: k, df, .run, kd, ro⟩, cs, h⟩ : AState)) none) = some s' := by
          have := e1
          rw [ci_false, hk1, ci_false] at this
          exact this
        obtain ⟨d, hd, e3⟩ := ob_eq e2
        obtain ⟨hdn, e4⟩ := ci_then e3
        have hnf : ∀ i, floatId y.op.op undefA ≠ some i := by
          intro i h0
          cases hop : y.op.op <;> rw [hop] at h0 <;> cases h0
        have hfr : ∀ i, y.kind = 2 → floatId y.op.op undefA = some i → ¬ Float done L tm i := fun i _ h0 => absurd h0 (hnf i)
        refine putOff hkn hd (nblt.1 hdn) hfr K ?_ (extend (keep hkn hd) ?_) (Option.some.inj e4).symm
        · intro i
          rw [floats hkn hd (nblt.1 hdn) hfr i]
          exact ⟨.inl, fun h => h.elim id (fun h => absurd h.2 (hnf i))⟩
        · exact ⟨d, undefA, false, hd, T.get_set_same _ _ _, by rw [selfW hkn hd]; exact hb, fun _ => rfl, fun h => (by cases h), fun h => (by cases h)⟩
      | true =>
        rcases ci_some (c := Nat.beq y.kind 2) (a := some ()) (b := some ()) (x := ()) (by cases Nat.beq y.kind 2 <;> rfl) with ⟨hk2, _⟩ | ⟨hk2, _⟩
        · -- a row
          have e2 : op2 (operF y.op.op C.p C.gl tm h) (fun n h' => (match n with
              | .value v => ob y.op.dst fun d => ci (Nat.blt d nt && allAgain C ops h' (tm.set d v) (y :: A))
                  (some (⟨⟨fn, nt, tm.set d v, .draw ops U (y :: A) :: k, df, .run, kd, ro⟩, cs, h'⟩ : AState)) none
              | _ => none)) = some s' := by
            have := e1
            rw [ci_true, hk1, ci_false, hk2, ci_true] at this
            exact this
          obtain ⟨n, h', hop, e3⟩ := op2_eq e2
          cases n with
          | value v =>
            obtain ⟨d, hd, e4⟩ := ob_eq e3
            obtain ⟨hc, e5⟩ := ci_then e4
            simp only [Bool.and_eq_true, nblt] at hc
            obtain ⟨hdn, hag⟩ := hc
            have hk2' := nbeq.1 hk2
            obtain ⟨hid, l, t, eh⟩ := float_shape (by rw [← hyk]; exact hk2') hop
            have hfr : ∀ i, y.kind = 2 → floatId y.op.op v = some i → ¬ Float done L tm i := by
              intro i _ h0 hf
              rw [hid] at h0; cases h0
              have := (K.f1 _ ((hfl _).2 hf)).2.1
              omega
            have hsame := allAgain_spec hag
            subst eh
            have K' : Ctx C.gl r (newRowA h t l false) cs ccs (fun i => fl i ∨ (y.kind = 2 ∧ floatId y.op.op v = some i)) fls w0 w := by
              refine ⟨K.hr.abs l t, K.csr, ?_, ?_⟩
              · rintro i (hi | ⟨_, hi⟩)
                · obtain ⟨a, b, c⟩ := K.f1 i hi
                  exact ⟨a, by rw [newRow_next]; omega, c⟩
                · rw [hid] at hi; cases hi
                  exact ⟨K.hr.unused, by rw [newRow_next]; omega, fun h => by have := (K.f2 _ h).2; omega⟩
              · intro i hi
                obtain ⟨a, b⟩ := K.f2 i hi
                exact ⟨a, by rw [newRow_next]; omega⟩
            refine putOff hkn hd hdn hfr K' (fun i => (floats hkn hd hdn hfr i).symm) ?_ (Option.some.inj e5).symm
            intro q hq hqL
            rcases List.mem_append.1 hq with hq | hq
            · exact hsame q (List.mem_cons_of_mem _ (D.put q hq hqL).2.1)
            · rw [List.mem_singleton] at hq
              rw [hq]; exact hsame y (by simp)
          | _ => cases e3
        · have e2 : ob (quietF y.op.op C.p C.gl tm h) (fun v => ob y.op.dst fun d => ci (Nat.blt d nt)
              (some (⟨⟨fn, nt, tm.set d v, .draw ops U (y :: A) :: k, df, .run, kd, ro⟩, cs, h⟩ : AState)) none) = some s' := by
            have := e1
            rw [ci_true, hk1, ci_false, hk2, ci_false] at this
            exact this
          obtain ⟨v, hqf, e3⟩ := ob_eq e2
          obtain ⟨d, hd, e4⟩ := ob_eq e3
          obtain ⟨hdn, e5⟩ := ci_then e4
          have hk2' : y.kind ≠ 2 := nbeq_f.1 hk2
          have hfr : ∀ i, y.kind = 2 → floatId y.op.op v = some i → ¬ Float done L tm i := fun i h0 => absurd h0 hk2'
          refine putOff hkn hd (nblt.1 hdn) hfr K ?_ (extend (keep hkn hd) ?_) (Option.some.inj e5).symm
          · intro i
            rw [floats hkn hd (nblt.1 hdn) hfr i]
            exact ⟨.inl, fun h => h.elim id (fun h => absurd h.1 hk2')⟩
          · refine ⟨d, v, true, hd, T.get_set_same _ _ _, by rw [selfW hkn hd]; exact hb, fun h => (by cases h), fun _ _ => ?_, fun _ h => absurd h hk2'⟩
            rw [quiet_congr (tm := tm)]
            · exact hqf
            · intro x hx
              refine eval_set (fun e => self hkn hd ?_)
              rw [e] at hx
              exact reads_op hx
end
end Go.Am

namespace Go.Am
open Go Go.RowKit Forc

section
variable {P : Program} {C : Cfg} {r : Rho} {h : AHeap} {w0 w : World}

/-! ## results -/
def resOne (tmps : Array Value) : ResultVar → Sem Value
  | .tmp t => pure (tmps.getD t undef)
  | .cell a t => do loadVar t (← asAddr (tmps.getD a undef))

theorem resOne_of [Atoms] (H : HR C.gl r h w0 w) {off : List Nat} {nt : Nat} {tm : T Value} {ct : Array Value} (ht : TR r (fun t => t ∈ off) nt tm ct) {x : ResultVar} {v : Value}
    (e : (match x with
      | .tmp t => ci (memN t off) none (tm.get t)
      | .cell a t => ci (memN a off) none (ob (tm.get a) fun v => (match v with | .pointer a => ob a fun a => loadA (AP.of P) h t a | _ => none))) = some v) :
    ∃ v', cv r v = some v' ∧ (resOne ct x).run P w = .ok v' w := by
  have not_off : ∀ {t : Nat}, memN t off = false → ¬ t ∈ off := fun h1 h2 => by rw [memN_iff.2 h2] at h1; cases h1
  cases x with
  | tmp t =>
    obtain ⟨hn, e1⟩ := ci_else (show ci (memN t off) none (tm.get t) = some v from e)
    obtain ⟨v', h1, h2⟩ := ht.2 t v (not_off hn) e1
    refine ⟨v', h1, ?_⟩
    simp [resOne, Array.getD_eq_getD_getElem?, h2]
  | cell a t =>
    obtain ⟨hn, e1⟩ := ci_else (show ci (memN a off) none (ob (tm.get a) fun v => (match v with | .pointer a => ob a fun a => loadA (AP.of P) h t a | _ => none)) = some v from e)
    obtain ⟨u, hu, e2⟩ := ob_eq e1
    obtain ⟨u', h1, h2⟩ := ht.2 a u (not_off hn) hu
    cases u with
    | pointer x =>
      obtain ⟨x, ex, e3⟩ := ob_eq (show ob x _ = some v from e2)
      subst ex
      obtain ⟨b, eb, hca⟩ := cv_ptr_eq h1
      subst eb
      obtain ⟨v', g1, g2⟩ := load_of (P := P) H hca e3
      refine ⟨v', g1, ?_⟩
      simp only [resOne, Array.getD_eq_getD_getElem?, h2, Option.getD_some, asAddr, Sem.run_bind, Sem.run_pure, Result.andThen_ok]
      exact g2
    | _ => cases e2

theorem resAll_of [Atoms] (H : HR C.gl r h w0 w) {off : List Nat} {nt : Nat} {tm : T Value} {ct : Array Value} (ht : TR r (fun t => t ∈ off) nt tm ct) : ∀ {l : List ResultVar} {vs : List Value}, resultsA (AP.of P) h tm off l = some vs →
    ∃ vs', cvs r vs = some vs' ∧ (l.mapM (resOne ct)).run P w = .ok vs' w
  | [], vs, e => by
    cases e
    exact ⟨[], by simp [cvs], by simp⟩
  | x :: l, vs, e => by
    obtain ⟨v, hv, e1⟩ := ob_eq e
    obtain ⟨us, hu, e2⟩ := ob_eq e1
    cases e2
    obtain ⟨v', h1, h2⟩ := resOne_of (P := P) H ht hv
    obtain ⟨us', h3, h4⟩ := resAll_of H ht hu
    refine ⟨v' :: us', cvs_mk_cons h1 h3, ?_⟩
    rw [List.mapM_cons]
    simp only [Sem.run_bind, h2, h4, Result.andThen_ok, Sem.run_pure]

theorem results_of [Atoms] (H : HR C.gl r h w0 w) {off : List Nat} {nt : Nat} {tm : T Value} {ct : Array Value} (ht : TR r (fun t => t ∈ off) nt tm ct) {f : Func} {vs : List Value} (e : resultsA (AP.of P) h tm off f.results.toList = some vs) :
    ∃ v', cv r (resultV vs) = some v' ∧ (results f ct).run P w = .ok v' w := by
  obtain ⟨vs', h1, h2⟩ := resAll_of (P := P) H ht e
  have hrun : (f.results.mapM (resOne ct)).run P w = .ok ⟨vs'⟩ w := by
    rw [Array.mapM_eq_mapM_toList, map_eq_pure_bind]
    simp only [Sem.run_bind, h2, Result.andThen_ok, Sem.run_pure]
  have hres : (results f ct).run P w = .ok (if h : (⟨vs'⟩ : Array Value).size = 1 then (⟨vs'⟩ : Array Value)[0] else .tuple ⟨vs'⟩) w := by
    have e1 : results f ct = (do let vs ← f.results.mapM (resOne ct); pure (if h : vs.size = 1 then vs[0] else .tuple vs)) := by
      unfold results
      congr 1
    rw [e1]
    simp only [Sem.run_bind, hrun, Result.andThen_ok, Sem.run_pure]
  rw [hres]
  cases vs with
  | nil =>
    simp [cvs] at h1; subst h1
    exact ⟨.tuple #[], by simp [resultV, cv, cvs], rfl⟩
  | cons v vs =>
    obtain ⟨v', k, e1, g1, g2⟩ := cvs_cons h1
    subst e1
    cases vs with
    | nil =>
      simp [cvs] at g2; subst g2
      exact ⟨v', g1, rfl⟩
    | cons u us =>
      obtain ⟨u', k', e1, g3, g4⟩ := cvs_cons g2
      subst e1
      refine ⟨.tuple ⟨v' :: u' :: k'⟩, ?_, ?_⟩
      · show cv r (.tuple ⟨v :: u :: us⟩) = _
        simp only [cv, h1]
      · rw [dif_neg (by simp)]
end

section
variable {P : Program} {C : Cfg} {cs0 : List Frame} {w0 : World}

theorem settle_drop [Atoms] {r : Rho} : ∀ {l c : List PanicEntry}, PLR r l c → PLR r (l.dropWhile (!·.goexit)) (c.dropWhile (!·.goexit))
  | [], _, h => by cases h; exact rfl
  | e :: es, _, ⟨c, cs, e1, a, b, d, f⟩ => by
    subst e1
    simp only [List.dropWhile_cons, d]
    cases e.goexit with
    | true => exact ⟨c, cs, rfl, a, b, d, f⟩
    | false => exact settle_drop f

/-- a frame is left: its caller goes on -/
theorem return_of [Atoms] [iF : Forc] {cfS : Frame} {wS : World} {r : Rho} {h : AHeap} {cs : List AFrame} {ccs : List Frame} {fl fls : Nat → Prop} {w' : World} {cf : Frame} {kd : CallKind} {v v' : Value} {s' : AState}
    (K : Ctx C.gl r h cs ccs fl fls w0 w') (hk : cf.kind = kd) (hv : cv r v = some v') (hb : (stepG P true { frame := cfS, callers := ccs ++ cs0, status := .running, dying := none } wS).bare = (doReturn P true cf (ccs ++ cs0) none v' w').bare)
    (e : doReturnA C kd cs v h = some s') : To P C cs0 w0 cfS ccs wS s' := by
  cases cs with
  | nil => cases e
  | cons c rest =>
    obtain ⟨cc, ccs', ec, f, g, Fc, Kr, hsplit, hdis⟩ := K.csr
    subst ec
    have K' : Ctx C.gl r h rest ccs' f g w0 w' := ⟨K.hr, Kr, fun i hi => by
        obtain ⟨a, b⟩ := K.f2 i ((hsplit i).2 (.inl hi))
        exact ⟨a, b, hdis i hi⟩, fun i hi => K.f2 i ((hsplit i).2 (.inr hi))⟩
    cases kd with
    | normal =>
      obtain ⟨c', e1, e2⟩ := ob_eq (show ob (finishA C h c v) (fun c' => some (⟨c', rest, h⟩ : AState)) = some s' from e)
      cases e2
      obtain ⟨fl', F', hsub, _⟩ := finish_of Fc hv e1
      refine ⟨_, ccs', w', Steps.one (step_lone_go ?_), r, fl', g, K'.sub hsub, F'⟩
      rw [hb]
      simp [doReturn, hk]
    | deferred =>
      obtain ⟨cfn, cnt, ctm, ctodo, cdf, cmd, ckd, cro⟩ := c
      have hm := Fc.mode
      have go : ∀ {m cm : FrameMode}, cmd ≠ .run → m ≠ .run → ModeR r m cm → (doReturn P true cf ((cc :: ccs') ++ cs0) none v' w').bare = .go { frame := { cc with mode := cm }, callers := ccs' ++ cs0, status := .running, dying := none } w' →
          s' = ⟨⟨cfn, cnt, ctm, ctodo, cdf, m, ckd, cro⟩, rest, h⟩ → To P C cs0 w0 cfS (cc :: ccs') wS s' := by
        intro m cm h0 h1 h2 h3 h4
        subst h4
        obtain ⟨o1, o2, o3⟩ := Fc.off h0
        exact ⟨{ cc with mode := cm }, ccs', w', Steps.one (step_lone_go (by rw [hb, h3])), r, fun _ => False, g, K'.sub (fun _ h => h.elim),
          ⟨Fc.fn, Fc.kind, Fc.round, h2, Fc.defers, fun h => absurd h h1, fun _ => ⟨o1, fun _ h => h, o3⟩⟩⟩
      cases cmd with
      | run => cases e
      | returning =>
        have hcm : cc.mode = .returning := hm
        refine go (m := .returning) (cm := .returning) (by intro h; cases h) (by intro h; cases h) rfl ?_ (Option.some.inj e).symm
        simp only [doReturn, hk, List.cons_append, hcm, GStep.bare_go]
        rw [← hcm]
      | panicking ch =>
        obtain ⟨cch, hcm, hpl⟩ := hm
        have hs : s' = ⟨⟨cfn, cnt, ctm, ctodo, cdf, settleA (.panicking ch), ckd, cro⟩, rest, h⟩ := (Option.some.inj e).symm
        have same : settleA (.panicking ch) = .panicking ch → (doReturn P true cf ((cc :: ccs') ++ cs0) none v' w').bare = .go { frame := cc, callers := ccs' ++ cs0, status := .running, dying := none } w' → To P C cs0 w0 cfS (cc :: ccs') wS s' := by
          intro h1 h2
          refine go (m := .panicking ch) (cm := .panicking cch) (by intro h; cases h) (by intro h; cases h) ⟨cch, rfl, hpl⟩ ?_ (by rw [hs, h1])
          rw [h2, ← hcm]
        cases ch with
        | nil =>
          have : cch = [] := hpl
          subst this
          exact same rfl (by simp only [doReturn, hk, List.cons_append, hcm, GStep.bare_go])
        | cons p ch =>
          obtain ⟨cp, cch', ecp, p1, p2, p3, p4⟩ := hpl
          subst ecp
          obtain ⟨pv, prec, pgo⟩ := p
          obtain ⟨cpv, cprec, cpgo⟩ := cp
          simp only at p1 p2 p3
          subst p2; subst p3
          cases cprec with
          | false => exact same rfl (by simp only [doReturn, hk, List.cons_append, hcm, GStep.bare_go])
          | true =>
            have hdrop := settle_drop p4
            cases hq : ch.dropWhile (!·.goexit) with
            | nil =>
              rw [hq] at hdrop
              have hcq : cch'.dropWhile (!·.goexit) = [] := hdrop
              refine go (m := .returning) (cm := .returning) (by intro h; cases h) (by intro h; cases h) rfl ?_ ?_
              · simp only [doReturn, hk, List.cons_append, hcm, hcq, GStep.bare_go]
              · rw [hs]; simp only [settleA, hq]
            | cons x xs =>
              rw [hq] at hdrop
              obtain ⟨cx, cxs, ecx, q1, q2, q3, q4⟩ := hdrop
              refine go (m := .panicking (x :: xs)) (cm := .panicking (cx :: cxs)) (by intro h; cases h) (by intro h; cases h) ⟨_, rfl, cx, cxs, rfl, q1, q2, q3, q4⟩ ?_ ?_
              · simp only [doReturn, hk, List.cons_append, hcm, ecx, GStep.bare_go]
              · rw [hs]; simp only [settleA, hq]
    | _ => cases e
end
end Go.Am

namespace Go.Am
open Go Go.RowKit Forc

section
variable {P : Program} {C : Cfg} {cs0 : List Frame} {w0 : World} {r : Rho} {fn : FuncId} {df : List Deferred} {kd : CallKind} {ro : Option Nat}
  {nt : Nat} {tm : T Value} {h : AHeap} {w : World} {cs : List AFrame} {ccs : List Frame} {fls : Nat → Prop} {s' : AState}

/-- the model's machine leaves a frame -/
def leaves (P : Program) (cf : Frame) (ccs : List Frame) (w : World) (jump : Option Code) : GStep :=
  match cf.roundOf with
  | none => if jump matches none | some .ret then .go { frame := { cf with mode := .returning }, callers := ccs, status := .running, dying := none } w else .ended (.stuck "exit, goto: no such block or label" (cf.pos P)) w
  | some l => match (Instr.endRound l jump).run P w with
    | .ok v w => (doReturn P true cf ccs none v w).bare
    | .halt _ w => .ended (.stuck "range over a function: no such loop" (cf.pos P)) w

theorem leave_of [Atoms] [iF : Forc] {cf : Frame} {jump : Option Code} {todo : List AItem} (K : Ctx C.gl r h cs ccs (fun _ => False) fls w0 w) (B : FB r fn df kd ro cf) (ht : TR r (fun _ => False) nt tm cf.tmps)
    (hn : ∀ d w re sv k, cf.todo ≠ .call d w re sv :: k) (hb : (stepG P true { frame := cf, callers := ccs ++ cs0, status := .running, dying := none } w).bare = leaves P cf (ccs ++ cs0) w jump)
    (e : leaveA jump todo C fn nt tm df kd ro cs h = some s') : To P C cs0 w0 cf ccs w s' := by
  have hR := B.round
  unfold leaveA at e
  cases ro with
  | none =>
    have hro : cf.roundOf = none := hR
    have key : (jump = none ∨ jump = some .ret) → some (⟨⟨fn, nt, tm, todo, df, .returning, kd, none⟩, cs, h⟩ : AState) = some s' → To P C cs0 w0 cf ccs w s' := by
      intro hj e1
      cases e1
      refine ⟨{ cf with mode := .returning }, ccs, w, Steps.one (step_lone_go ?_), r, fun _ => False, fls, K, ⟨B.fn, B.kind, hR, rfl, B.defers, (fun h => by cases h), fun _ => ⟨?_, fun _ h => h, hn⟩⟩⟩
      · rw [hb]; unfold leaves; rw [hro]
        rcases hj with hj | hj <;> (subst hj; rfl)
      · refine TR_weaken ht (fun _ h => h.elim)
    cases jump with
    | none => exact key (.inl rfl) e
    | some c =>
      cases c with
      | ret => exact key (.inr rfl) e
      | _ => cases e
  | some l =>
    obtain ⟨pb, hp, hro⟩ := hR
    obtain ⟨al, hg, e1⟩ := onLoop_eq (show onLoop (h.get l) _ = some s' from e)
    obtain ⟨cl, hcl, LRk, hgl⟩ := loop_of (P := P) K.hr hg hp
    cases df with
    | cons _ _ => cases e1
    | nil =>
      have hji : ci jump.isNone LoopState.ready LoopState.done = (if jump.isNone then LoopState.ready else LoopState.done) := by cases jump <;> rfl
      have hor : OR r pb (.loop { cl with state := if jump.isNone then .ready else .done, pending := jump }) (.loop ⟨ci jump.isNone .ready .done, jump, al.fn, al.nt, al.tmps, al.params, al.assign, al.body, al.defers⟩) :=
        ⟨_, rfl, { state := hji.symm, pending := rfl, fn := LRk.fn, tmps := LRk.tmps, params := LRk.params, assign := LRk.assign, body := LRk.body, defers := LRk.defers }⟩
      obtain ⟨w', u1, u2⟩ := setObj_of (P := P) K.hr hp hg rfl rfl hcl (by intro _ _ _ h; cases h) hor
      have hrun : (Instr.endRound pb.blk jump).run P w = .ok (.bool jump.isNone) w' := by
        unfold Instr.endRound
        simp only [Sem.run_bind, hgl, Result.andThen_ok, u1, Sem.run_pure]
      have K' : Ctx C.gl r (h.put l (.loop ⟨ci jump.isNone .ready .done, jump, al.fn, al.nt, al.tmps, al.params, al.assign, al.body, al.defers⟩)) cs ccs (fun _ => False) fls w0 w' := K.step Ext.rfl (by rw [next_put]; exact Nat.le_refl _) u2
      refine return_of K' B.kind (v := .bool jump.isNone) (v' := .bool jump.isNone) (by simp [cv]) ?_ e1
      rw [hb]; unfold leaves; rw [hro]; simp only [hrun]

/-- a loop over a function begins -/
theorem range_of [Atoms] [iF : Forc] (G : Good P C) {f : Operand} {params : Array Tmp} {assign body : Code} {k : List AItem} {ck : List Item} {cf : Frame} (K : Ctx C.gl r h cs ccs (fun _ => False) fls w0 w) (B : FB r fn df kd ro cf)
    (ht : TR r (fun _ => False) nt tm cf.tmps) (htodo : cf.todo = .code (.rangeFunc f params assign body) :: ck) (hk : plainC k = some ck) (e : rangeFuncK f params assign body k C fn nt tm df kd ro cs h = some s') : To P C cs0 w0 cf ccs w s' := by
  obtain ⟨v, hv, e1⟩ := ob_eq e
  have hf := eval_of K.hr ht (fun _ _ h => h) hv
  have core : ∀ {r1 : Rho} {h1 : AHeap} {w1 : World} {b : Nat} {mark cmark : List Deferred} {pbb : PB}, r.le r1 → Ctx C.gl r1 h1 cs ccs (fun _ => False) fls w0 w1 → DLR r1 mark cmark → r1 b = some pbb →
      (Instr.enterLoop cf.fn cf.tmps params assign body cf.roundOf).run P w = .ok (w1.heap.size, cmark) (w1.alloc (.loop { state := .ready, pending := none, fn := cf.fn, tmps := cf.tmps, params, assign, body, defers := pbb.blk })) →
      (ob (calleeA v [.func (.yield h1.next) #[] #[]]) fun n => act C ⟨fn, nt, tm, .rangeF h1.next :: k, mark ++ df, .run, kd, ro⟩ cs (h1.push (.loop ⟨.ready, none, fn, nt, tm, params, assign, body, b⟩)) n) = some s' →
      To P C cs0 w0 cf ccs w s' := by
    intro r1 h1 w1 b mark cmark pbb hle K1 hmark hpb hrun e2
    obtain ⟨n, hn, e3⟩ := ob_eq e2
    have hx : Ext h1.next r1 (r1.ext h1.next ⟨w1.heap.size, 0, 0⟩) := Ext.of K1.hr
    have hor : OR (r1.ext h1.next ⟨w1.heap.size, 0, 0⟩) ⟨w1.heap.size, 0, 0⟩ (.loop { state := .ready, pending := none, fn := cf.fn, tmps := cf.tmps, params, assign, body, defers := pbb.blk }) (.loop ⟨.ready, none, fn, nt, tm, params, assign, body, b⟩) :=
      ⟨_, rfl, { state := rfl, pending := rfl, fn := B.fn, tmps := TR_mono (Rho.le_trans hle hx.le) ht, params := rfl, assign := rfl, body := rfl, defers := ⟨pbb, hx.le _ _ hpb, rfl⟩ }⟩
    have H2 := K1.hr.alloc 0 hor
    have K2 := K1.step hx (by rw [next_push]; omega) H2
    have hle2 := Rho.le_trans hle hx.le
    have hcvs : cvs (r1.ext h1.next ⟨w1.heap.size, 0, 0⟩) [.func (.yield h1.next) #[] #[]] = some [.func (.yield w1.heap.size) #[] #[]] := by
      simp [cvs, cv, cfn, Rho.ext_same]
    have hout := callee_of (P := P) (_c := default) (_ty := 0) H2 (cv_mono hle2 hf) hcvs hn
    have F : FR (r1.ext h1.next ⟨w1.heap.size, 0, 0⟩) XHead ⟨fn, nt, tm, .rangeF h1.next :: k, mark ++ df, .run, kd, ro⟩ { cf with todo := .inRangeFunc w1.heap.size :: ck, defers := cmark ++ cf.defers } (fun _ => False) :=
      ⟨B.fn, B.kind, RoundR_mono hle2 B.round, B.mode, DLR_append (DLR_mono hx.le hmark) (DLR_mono hle2 B.defers), fun _ => ⟨TR_mono hle2 ht, fun _ h => h, _, ck, Rho.ext_same _ _ _, rfl, hk⟩, fun h => absurd rfl h⟩
    have hres : ∀ cf2 : Frame, cf2.tmps = cf.tmps → resolve cf2.eval { callee := .value f, args := #[.const (.func (.yield w1.heap.size) #[] #[])], argTypes := #[] } 0 = Deferred.ofValue (cf.eval f) ⟨[.func (.yield w1.heap.size) #[] #[]]⟩ := by
      intro cf2 h2
      have hev : cf2.eval f = cf.eval f := by
        cases f <;> simp [Frame.eval, h2]
      have hmap : (#[Operand.const (Value.func (Fn.yield w1.heap.size) #[] #[])] : Array Operand).map cf2.eval = ⟨[.func (.yield w1.heap.size) #[] #[]]⟩ := by
        apply Array.ext'; simp [Frame.eval]
      unfold resolve
      simp only [hev, hmap]
    refine act_of G K2 F rfl hout ?_ e3
    simp only [stepG, stepG.exec, htodo, B.mode, Sem.runT_eq, hrun, GStep.bare_after]
    rw [hres]
    rfl
  have hR := B.round
  cases ro with
  | some l =>
    obtain ⟨pb, hp, hro⟩ := hR
    obtain ⟨al, hg, e2⟩ := onLoop_eq (show onLoop (h.get l) _ = some s' from e1)
    obtain ⟨cl, hcl, LRk, hgl⟩ := loop_of (P := P) K.hr hg hp
    obtain ⟨pbb, hpb, hdf⟩ := LRk.defers
    refine core (pbb := pbb) (mark := []) (cmark := []) r.le_refl K rfl hpb ?_ e2
    unfold Instr.enterLoop
    simp only [hro, Sem.run_bind, hgl, Result.andThen_ok, Sem.run_pure, run_newObj, World.alloc_eq, hdf]
  | none =>
    have hro : cf.roundOf = none := hR
    have hx : Ext h.next r (r.ext h.next ⟨w.heap.size, 0, 0⟩) := Ext.of K.hr
    have hor : OR (r.ext h.next ⟨w.heap.size, 0, 0⟩) ⟨w.heap.size, 0, 0⟩ (.deferred (some [])) (.deferred (some [])) := ⟨some [], rfl, [], rfl, rfl⟩
    have H1 := K.hr.alloc 0 hor
    have K1 := K.step hx (by rw [next_push]; omega) H1
    refine core (pbb := ⟨w.heap.size, 0, 0⟩) (mark := collectedAt h.next) (cmark := [{ target := .collected w.heap.size, args := #[] }]) hx.le K1 ⟨_, [], rfl, ⟨by simp [cvs], ⟨_, Rho.ext_same _ _ _, rfl⟩⟩, rfl⟩ (Rho.ext_same _ _ _) ?_ e1
    unfold Instr.enterLoop
    simp only [hro, Sem.run_bind, Result.andThen_ok, Sem.run_pure, run_newObj, World.alloc_eq]

/-- **A PIECE OF CODE** -/
theorem code_of [Atoms] [iF : Forc] (G : Good P C) : ∀ (c : Code) (k : List AItem) (ck : List Item) (cf : Frame), Ctx C.gl r h cs ccs (fun _ => False) fls w0 w → FB r fn df kd ro cf → TR r (fun _ => False) nt tm cf.tmps → cf.todo = .code c :: ck → plainC k = some ck →
    codeK c k C fn nt tm df kd ro cs h = some s' → To P C cs0 w0 cf ccs w s' := by
  have goTo : ∀ {cf : Frame} {k : List AItem} {ck : List Item}, Ctx C.gl r h cs ccs (fun _ => False) fls w0 w → FB r fn df kd ro cf → TR r (fun _ => False) nt tm cf.tmps → plainC k = some ck →
      step P (lone cf (ccs ++ cs0) w) = .next (lone { cf with todo := ck } (ccs ++ cs0) w) → toK k C fn nt tm df kd ro cs h = some s' → To P C cs0 w0 cf ccs w s' := by
    intro cf k ck K B ht hk hs e
    cases e
    exact ⟨_, ccs, w, Steps.one hs, r, fun _ => False, fls, K, (FB_todo B ck).fr (TodoR_plain ht (fun _ h => h) hk)⟩
  intro c
  induction c with
  | skip =>
    intro k ck cf K B ht htodo hk e
    exact goTo K B ht hk (step_lone_go (by simp [stepG, stepG.exec, htodo, B.mode])) e
  | label l =>
    intro k ck cf K B ht htodo hk e
    exact goTo K B ht hk (step_lone_go (by simp [stepG, stepG.exec, htodo, B.mode])) e
  | region id ops draw =>
    intro k ck cf K B ht htodo hk e
    cases draw with
    | false =>
      have e1 : toK (.reg ops ops.toList :: k) C fn nt tm df kd ro cs h = some s' := e
      cases e1
      refine ⟨{ cf with todo := .inRegion ops (List.range ops.size) :: ck }, ccs, w, Steps.one (step_lone_go (by simp [stepG, stepG.exec, htodo, B.mode])), r, fun _ => False, fls, K, ?_⟩
      refine (FB_todo B _).fr (X := XTop C h) (nt := nt) (tm := tm) (todo := .reg ops ops.toList :: k) ⟨ht, fun _ h => h, 0, ck, ?_, rfl, hk⟩
      rw [List.range_eq_range']; simp
    | true =>
      obtain ⟨l, hl, e1⟩ := ob_eq (show ob (drawPlan ops.toList) (fun l => toK (.draw ops l [] :: k) C fn nt tm df kd ro cs h) = some s' from e)
      cases e1
      obtain ⟨hp, hB⟩ := drawPlan_spec hl
      have hlin := lin_of hB (w.tape w.drawn (.order cf.fn id))
      refine ⟨{ cf with todo := .inRegion ops (Region.schedule true ops (w.tape w.drawn (.order cf.fn id))) :: ck }, ccs, w.drew, Steps.one (step_lone_go ?_), r, fun _ => False, fls, ⟨K.hr.drew, K.csr, K.f1, K.f2⟩, ?_⟩
      · simp [stepG, stepG.exec, htodo, B.mode, choose, Sem.run, Question.forced, Question.cut, G.mixed]
      · refine (FB_todo B _).fr (X := XTop C h) (nt := nt) (tm := tm) (todo := .draw ops l [] :: k) ⟨[], _, ck, rfl, hk, ⟨hp, ⟨[], hlin⟩, ?_, (fun q hq => by cases hq), (fun q hq => by cases hq)⟩, ?_, ?_, fun q hq => by cases hq⟩
        · intro x hx
          have := (hp.entry hx).1
          refine hlin.all _ ?_
          rcases Nat.lt_or_ge x.idx ops.size with h | h
          · exact h
          · simp [h] at this
        · exact TR_weaken ht (fun _ h => h.elim)
        · intro i
          exact ⟨fun h => h.elim, fun ⟨q, hq, _⟩ => by cases hq⟩
  | seq a b iha ihb =>
    intro k ck cf K B ht htodo hk e
    exact Steps_To (Steps.one (step_lone_go (fr' := { cf with todo := .code a :: .code b :: ck }) (by simp [stepG, stepG.exec, htodo, B.mode]))) (iha (.code b :: k) (.code b :: ck) _ K (FB_todo B _) ht rfl (plain_mk rfl hk) e)
  | cond c a b iha ihb =>
    intro k ck cf K B ht htodo hk e
    obtain ⟨v, hv, e1⟩ := ob_eq (show ob (evalA tm C.gl c) _ = some s' from e)
    have hc := eval_of K.hr ht (fun _ _ h => h) hv
    cases v with
    | bool t =>
      have hc := cv_bool_eq hc
      cases t with
      | true => exact Steps_To (Steps.one (step_lone_go (fr' := { cf with todo := .code a :: ck }) (by simp [stepG, stepG.exec, htodo, B.mode, hc]))) (iha k ck _ K (FB_todo B _) ht rfl hk e1)
      | false => exact Steps_To (Steps.one (step_lone_go (fr' := { cf with todo := .code b :: ck }) (by simp [stepG, stepG.exec, htodo, B.mode, hc]))) (ihb k ck _ K (FB_todo B _) ht rfl hk e1)
    | _ => cases e1
  | block id b ih =>
    intro k ck cf K B ht htodo hk e
    exact Steps_To (Steps.one (step_lone_go (fr' := { cf with todo := .code b :: .inBlock id :: ck }) (by simp [stepG, stepG.exec, htodo, B.mode]))) (ih (.inBlock id :: k) (.inBlock id :: ck) _ K (FB_todo B _) ht rfl (plain_mk rfl hk) e)
  | loop b ih =>
    intro k ck cf K B ht htodo hk e
    exact Steps_To (Steps.one (step_lone_go (fr' := { cf with todo := .code b :: .inLoop b :: ck }) (by simp [stepG, stepG.exec, htodo, B.mode]))) (ih (.inLoop b :: k) (.inLoop b :: ck) _ K (FB_todo B _) ht rfl (plain_mk rfl hk) e)
  | scope b ih =>
    intro k ck cf K B ht htodo hk e
    exact Steps_To (Steps.one (step_lone_go (fr' := { cf with todo := .code b :: .inScope b :: ck }) (by simp [stepG, stepG.exec, htodo, B.mode]))) (ih (.inScope b :: k) (.inScope b :: ck) _ K (FB_todo B _) ht rfl (plain_mk rfl hk) e)
  | goto l =>
    intro k ck cf K B ht htodo hk e
    rcases gotoIn_of (l := l) hk with ⟨k', ck', h1, h2, h3⟩ | h1
    · have e1 : toK k' C fn nt tm df kd ro cs h = some s' := by
        have := e
        unfold codeK at this
        simp only [h1] at this
        exact this
      exact goTo K B ht h3 (step_lone_go (by simp [stepG, stepG.exec, htodo, B.mode, h2])) e1
    · have := e
      unfold codeK at this
      simp only [h1] at this
      cases this
  | ret =>
    intro k ck cf K B ht htodo hk e
    refine leave_of (jump := some .ret) K B ht (by intro _ _ _ _ _; rw [htodo]; intro h; cases h) ?_ e
    unfold leaves
    cases hro : cf.roundOf with
    | none => simp [stepG, stepG.exec, htodo, B.mode, hro]
    | some l =>
      simp only [stepG, stepG.exec, htodo, B.mode, hro, Sem.runT_eq, GStep.bare_after]
      cases hq : (Instr.endRound l (some .ret)).run P w <;> rfl
  | exit id =>
    intro k ck cf K B ht htodo hk e
    rcases exitTo_of (id := id) hk with ⟨k', ck', h1, h2, h3⟩ | ⟨h1, h2⟩
    · have e1 : toK k' C fn nt tm df kd ro cs h = some s' := by
        have := e
        unfold codeK at this
        simp only [h1] at this
        exact this
      exact goTo K B ht h3 (step_lone_go (by simp [stepG, stepG.exec, htodo, B.mode, h2])) e1
    · have e1 : leaveA (some (.exit id)) (.code (.exit id) :: k) C fn nt tm df kd ro cs h = some s' := by
        have := e
        unfold codeK at this
        simp only [h1] at this
        exact this
      refine leave_of (jump := some (.exit id)) K B ht (by intro _ _ _ _ _; rw [htodo]; intro h; cases h) ?_ e1
      unfold leaves
      cases hro : cf.roundOf with
      | none => simp [stepG, stepG.exec, htodo, B.mode, hro, h2]
      | some l =>
        simp only [stepG, stepG.exec, htodo, B.mode, hro, h2, Option.elim_none, Sem.runT_eq, GStep.bare_after]
        cases hq : (Instr.endRound l (some (.exit id))).run P w <;> rfl
  | rangeFunc f params assign body ih1 ih2 =>
    intro k ck cf K B ht htodo hk e
    exact range_of G K B ht htodo hk e
  | refuse s => intro k ck cf K B ht htodo hk e; cases e
end
end Go.Am

namespace Go.Am
open Go Go.RowKit Forc

section
variable {P : Program} {C : Cfg} {cs0 : List Frame} {w0 : World} {r : Rho} {fn : FuncId} {df : List Deferred} {kd : CallKind} {ro : Option Nat}
  {nt : Nat} {tm : T Value} {h : AHeap} {w : World} {cs : List AFrame} {ccs : List Frame} {fls : Nat → Prop} {s' : AState}

theorem endRange_of [Atoms] [iF : Forc] {cf : Frame} {l : Nat} {k : List AItem} {ck : List Item} {pb : PB} (K : Ctx C.gl r h cs ccs (fun _ => False) fls w0 w) (B : FB r fn df kd ro cf)
    (ht : TR r (fun _ => False) nt tm cf.tmps) (hp : r l = some pb) (htodo : cf.todo = .endRangeFunc pb.blk :: ck) (hk : plainC k = some ck) (e : endRangeK l k C fn nt tm df kd ro cs h = some s') : To P C cs0 w0 cf ccs w s' := by
  obtain ⟨al, hg, e1⟩ := onLoop_eq (show onLoop (h.get l) _ = some s' from e)
  obtain ⟨cl, hcl, LRk, hgl⟩ := loop_of (P := P) K.hr hg hp
  have hne : al.state ≠ .busy := by
    intro h0; rw [h0] at e1; cases e1
  have e2 : some (⟨⟨fn, nt, tm, pendK al.pending k, df, .run, kd, ro⟩, cs, h.put l (.loop ⟨.exhausted, al.pending, al.fn, al.nt, al.tmps, al.params, al.assign, al.body, al.defers⟩)⟩ : AState) = some s' := by
    rw [← e1]
    cases hs : al.state <;> first | rfl | exact absurd hs hne
  cases e2
  have hor : OR r pb (.loop { cl with state := .exhausted }) (.loop ⟨.exhausted, al.pending, al.fn, al.nt, al.tmps, al.params, al.assign, al.body, al.defers⟩) :=
    ⟨_, rfl, { state := rfl, pending := LRk.pending, fn := LRk.fn, tmps := LRk.tmps, params := LRk.params, assign := LRk.assign, body := LRk.body, defers := LRk.defers }⟩
  obtain ⟨w', u1, u2⟩ := setObj_of (P := P) K.hr hp hg rfl rfl hcl (by intro _ _ _ h; cases h) hor
  have hst : (cl.state == LoopState.busy) = false := by
    rw [LRk.state]
    cases hs : al.state <;> first | rfl | exact absurd hs hne
  have hrun : (Instr.endLoop pb.blk).run P w = .ok al.pending w' := by
    unfold Instr.endLoop
    simp only [Sem.run_bind, hgl, Result.andThen_ok, hst, Bool.false_eq_true, if_false, u1, Sem.run_pure]
    rw [LRk.pending]
  have K' : Ctx C.gl r (h.put l (.loop ⟨.exhausted, al.pending, al.fn, al.nt, al.tmps, al.params, al.assign, al.body, al.defers⟩)) cs ccs (fun _ => False) fls w0 w' := K.step Ext.rfl (by rw [next_put]; exact Nat.le_refl _) u2
  refine ⟨{ cf with todo := (al.pending.map Item.code).toList ++ ck }, ccs, w', Steps.one (step_lone_go ?_), r, fun _ => False, fls, K', (FB_todo B _).fr (TodoR_plain ht (fun _ h => h) ?_)⟩
  · simp only [stepG, stepG.exec, htodo, B.mode, Sem.runT_eq, hrun, GStep.bare_after]
    rfl
  · cases al.pending with
    | none => exact hk
    | some c => exact plain_mk rfl hk

theorem begin_of [Atoms] [iF : Forc] {cf : Frame} {k : List AItem} {ck : List Item} (K : Ctx C.gl r h cs ccs (fun _ => False) fls w0 w) (B : FB r fn df kd ro cf)
    (ht : TR r (fun _ => False) nt tm cf.tmps) (htodo : cf.todo = .beginRound :: ck) (hk : plainC k = some ck) (e : beginK k C fn nt tm df kd ro cs h = some s') : To P C cs0 w0 cf ccs w s' := by
  have hR := B.round
  obtain ⟨l, el, e0⟩ := ob_eq (show ob ro _ = some s' from e)
  subst el
  obtain ⟨pb, hp, hro⟩ := hR
  obtain ⟨al, hg, e1⟩ := onLoop_eq (show onLoop (h.get l) _ = some s' from e0)
  obtain ⟨cl, hcl, LRk, hgl⟩ := loop_of (P := P) K.hr hg hp
  have hst : al.state = .ready := by
    cases hs : al.state with
    | ready => rfl
    | _ => rw [hs] at e1; cases e1
  have e2 : some (⟨⟨fn, nt, tm, k, df, .run, kd, some l⟩, cs, h.put l (.loop ⟨.busy, al.pending, al.fn, al.nt, al.tmps, al.params, al.assign, al.body, al.defers⟩)⟩ : AState) = some s' := by
    rw [← e1, hst]
  cases e2
  have hor : OR r pb (.loop { cl with state := .busy }) (.loop ⟨.busy, al.pending, al.fn, al.nt, al.tmps, al.params, al.assign, al.body, al.defers⟩) :=
    ⟨_, rfl, { state := rfl, pending := LRk.pending, fn := LRk.fn, tmps := LRk.tmps, params := LRk.params, assign := LRk.assign, body := LRk.body, defers := LRk.defers }⟩
  obtain ⟨w', u1, u2⟩ := setObj_of (P := P) K.hr hp hg rfl rfl hcl (by intro _ _ _ h; cases h) hor
  have hrun : (do cf.roundOf.elim (stuck "beginRound: no round") Instr.beginRound; pure .skip : Sem Next).run P w = .ok .skip w' := by
    rw [hro]
    unfold Instr.beginRound
    simp only [Option.elim_some, Sem.run_bind, hgl, Result.andThen_ok, u1, LRk.state, hst, Sem.run_pure]
  have K' : Ctx C.gl r (h.put l (.loop ⟨.busy, al.pending, al.fn, al.nt, al.tmps, al.params, al.assign, al.body, al.defers⟩)) cs ccs (fun _ => False) fls w0 w' := K.step Ext.rfl (by rw [next_put]; exact Nat.le_refl _) u2
  have hfin : cf.finish undef = { cf with todo := ck } := by simp [Frame.finish, htodo]
  refine ⟨{ cf with todo := ck }, ccs, w', Steps.one (step_lone_go ?_), r, fun _ => False, fls, K', (FB_todo B _).fr (TodoR_plain ht (fun _ h => h) hk)⟩
  have e3 : stepG P true { frame := cf, callers := ccs ++ cs0, status := .running, dying := none } w = stepG.apply P true cf (ccs ++ cs0) none (do cf.roundOf.elim (stuck "beginRound: no round") Instr.beginRound; pure .skip) w := by
    simp only [stepG, stepG.exec, htodo, B.mode]
  rw [e3, apply_skip hrun, hfin]

/-- **A RUNNING FRAME** -/
theorem todo_of [Atoms] [iF : Forc] (G : Good P C) {todo : List AItem} {cf : Frame} {fl : Nat → Prop} (K : Ctx C.gl r h cs ccs fl fls w0 w) (F : FR r (XTop C h) ⟨fn, nt, tm, todo, df, .run, kd, ro⟩ cf fl)
    (e : todoK todo C fn nt tm df kd ro cs h = some s') : To P C cs0 w0 cf ccs w s' := by
  have B := F.fb
  have t := F.run rfl
  simp only at t
  have K0 : (∀ i, ¬ fl i) → Ctx C.gl r h cs ccs (fun _ => False) fls w0 w := fun _ => K.sub (fun _ h => h.elim)
  have hnc := (off_of F).2
  cases todo with
  | nil =>
    obtain ⟨t1, t2, t3⟩ := t
    have htodo : cf.todo = [] := (Option.some.inj (show some ([] : List Item) = some cf.todo from t3)).symm
    refine leave_of (jump := none) (K0 t2) B t1 hnc ?_ (show leaveA none [] C fn nt tm df kd ro cs h = some s' from e)
    unfold leaves
    cases hro : cf.roundOf with
    | none => simp [stepG, stepG.exec, htodo, B.mode, hro]
    | some l =>
      simp only [stepG, stepG.exec, htodo, B.mode, hro, Sem.runT_eq, GStep.bare_after]
      cases hq : (Instr.endRound l none).run P w <;> rfl
  | cons i k =>
    cases i with
    | code c =>
      obtain ⟨t1, t2, t3⟩ := t
      obtain ⟨ci, ck, h1, h2, h3⟩ := plain_cons t3
      cases h1
      exact code_of G c k ck cf (K0 t2) B t1 h3 h2 e
    | inBlock id =>
      obtain ⟨t1, t2, t3⟩ := t
      obtain ⟨ci, ck, h1, h2, h3⟩ := plain_cons t3
      cases h1
      have e1 : toK k C fn nt tm df kd ro cs h = some s' := e
      cases e1
      exact ⟨{ cf with todo := ck }, ccs, w, Steps.one (step_lone_go (by simp [stepG, stepG.exec, h3, B.mode])), r, fun _ => False, fls, K0 t2, (FB_todo B ck).fr (TodoR_plain t1 (fun _ h => h) h2)⟩
    | inLoop b =>
      obtain ⟨t1, t2, t3⟩ := t
      obtain ⟨ci, ck, h1, h2, h3⟩ := plain_cons t3
      cases h1
      exact Steps_To (Steps.one (step_lone_go (fr' := { cf with todo := .code b :: .inLoop b :: ck }) (by simp [stepG, stepG.exec, h3, B.mode]))) (code_of G b (.inLoop b :: k) (.inLoop b :: ck) _ (K0 t2) (FB_todo B _) t1 rfl (plain_mk rfl h2) e)
    | inScope b =>
      obtain ⟨t1, t2, t3⟩ := t
      obtain ⟨ci, ck, h1, h2, h3⟩ := plain_cons t3
      cases h1
      have e1 : toK k C fn nt tm df kd ro cs h = some s' := e
      cases e1
      exact ⟨{ cf with todo := ck }, ccs, w, Steps.one (step_lone_go (by simp [stepG, stepG.exec, h3, B.mode])), r, fun _ => False, fls, K0 t2, (FB_todo B ck).fr (TodoR_plain t1 (fun _ h => h) h2)⟩
    | reg ops rest =>
      obtain ⟨t1, t2, j, ck, t3, t4, t5⟩ := t
      exact reg_of G t5 rest j tm h r w cf (K0 t2) B t1 t3 t4 e
    | draw ops R A =>
      obtain ⟨done, L, ck, t1, t2, D, t4, t5, t6⟩ := t
      exact draw_of G t2 K B D t4 t5 t6 t1 e
    | rangeF l => cases e
    | endRangeF l =>
      obtain ⟨t1, t2, pb, ck, t3, t4, t5⟩ := t
      exact endRange_of (K0 t2) B t1 t3 t4 t5 e
    | beginRound =>
      obtain ⟨t1, t2, t3⟩ := t
      obtain ⟨ci, ck, h1, h2, h3⟩ := plain_cons t3
      cases h1
      exact begin_of (K0 t2) B t1 h3 h2 e

/-- **A FRAME THAT ENDS** -/
theorem unwind_of [Atoms] [iF : Forc] (G : Good P C) {todo : List AItem} {md : FrameMode} {cf : Frame} {fl : Nat → Prop} (K : Ctx C.gl r h cs ccs fl fls w0 w) (F : FR r (XTop C h) ⟨fn, nt, tm, todo, df, md, kd, ro⟩ cf fl) (hmd : md ≠ .run)
    (e : unwindA C fn nt tm todo df md kd ro cs h = some s') : To P C cs0 w0 cf ccs w s' := by
  obtain ⟨o1, o2, o3⟩ := F.off hmd
  have K0 : Ctx C.gl r h cs ccs (fun _ => False) fls w0 w := K.sub (fun _ h => h.elim)
  have hcm : cf.mode ≠ .run := by
    intro h0
    have := F.mode
    cases md with
    | run => exact hmd rfl
    | returning => have : cf.mode = .returning := this; rw [h0] at this; cases this
    | panicking ch => obtain ⟨c, h1, _⟩ := this; rw [h0] at h1; cases h1
  have hun : stepG P true { frame := cf, callers := ccs ++ cs0, status := .running, dying := none } w = unwind P true cf (ccs ++ cs0) none w := by
    unfold stepG
    cases hq : cf.mode with
    | run => exact absurd hq hcm
    | returning => simp only [hq]
    | panicking ch => simp only [hq]
  have hD := F.defers
  have F' : ∀ {X : XR} {l cl : List Deferred}, DLR r l cl → FR r X ⟨fn, nt, tm, todo, l, md, kd, ro⟩ { cf with defers := cl } (fun _ => False) := by
    intro X l cl hl
    exact ⟨F.fn, F.kind, F.round, F.mode, hl, fun h => absurd h hmd, fun _ => ⟨o1, fun _ h => h, o3⟩⟩
  cases df with
  | cons d ds =>
    obtain ⟨cd, cds, ec, hd, hds⟩ := hD
    have e1 : unwindT C d ds fn nt tm todo md kd ro cs h = some s' := e
    unfold unwindT at e1
    obtain ⟨tgt, args⟩ := d
    obtain ⟨ctgt, cargs⟩ := cd
    obtain ⟨hargs, htgt⟩ := hd
    cases tgt with
    | collected b =>
      obtain ⟨pb, hpb, ect⟩ := htgt
      simp only at ect
      subst ect
      obtain ⟨o, ho, e2⟩ := ob_eq (show ob (h.get b) _ = some s' from e1)
      cases o with
      | deferred l =>
        obtain ⟨l, el, e3⟩ := ob_eq (show ob l _ = some s' from e2)
        subst el
        cases e3
        obtain ⟨ob, hob, hh⟩ := K.hr.obj b pb hpb
        obtain ⟨cds2, eo, hl⟩ := hh _ ho
        obtain ⟨cl, ecl, hcl⟩ := hl
        subst ecl; subst eo
        have hor : OR r pb (.deferred none) (.deferred none) := ⟨none, rfl, rfl⟩
        obtain ⟨w', u1, u2⟩ := setObj_of (P := P) K.hr hpb ho rfl rfl hob (by intro _ _ _ h; cases h) hor
        have hrun : (Instr.takeDeferred pb.blk).run P w = .ok cl w' := by
          unfold Instr.takeDeferred
          have hget : (getObj pb.blk).run P w = .ok (.deferred (some cl)) w := by simp [getObj, Sem.run, hob]
          simp only [Sem.run_bind, hget, Result.andThen_ok, u1, Sem.run_pure]
        have K' : Ctx C.gl r (h.put b (.deferred none)) cs ccs (fun _ => False) fls w0 w' := K0.step Ext.rfl (by rw [next_put]; exact Nat.le_refl _) u2
        refine ⟨{ cf with defers := cl ++ cds }, ccs, w', Steps.one (step_lone_go ?_), r, fun _ => False, fls, K', F' (DLR_append hcl hds)⟩
        rw [hun]
        simp only [unwind, ec, Sem.runT_eq, hrun, GStep.bare_after]
        rfl
      | _ => cases e2
    | fn g cap =>
      obtain ⟨g', cap', ect, hg, hcap⟩ := htgt
      simp only at ect
      subst ect
      cases g with
      | func f =>
        cases hg
        obtain ⟨fr', e2, e3⟩ := ob_eq (show ob (enterA C f (args.toList ++ cap.toList) .deferred) _ = some s' from e1)
        cases e3
        obtain ⟨Fn, fnc, hf, hbd⟩ := enter_of (X := XTop C h) G (cvs_append hargs hcap) e2
        refine ⟨Frame.enter P f ⟨cargs.toList ++ cap'.toList⟩ .deferred, { cf with defers := cds } :: ccs, w, Steps.one (step_lone_go ?_), r, fun _ => False, fun i => False ∨ fls i, ⟨K.hr, ⟨_, ccs, rfl, fun _ => False, fls, F' hds, K.csr, fun _ => Iff.rfl, fun _ h => h.elim⟩, fun _ h => h.elim, fun i hi => hi.elim (fun h => h.elim) (fun h => K.f2 i h)⟩, Fn⟩
        rw [hun]
        have hinv : (invoke (.fn (.func f) cap') cargs).run P w = .ok (.enter f ⟨cargs.toList ++ cap'.toList⟩) w := by
          have : cargs ++ cap' = ⟨cargs.toList ++ cap'.toList⟩ := by apply Array.ext'; simp
          have hi : invoke (.fn (.func f) cap') cargs = callFunc f (cargs ++ cap') := rfl
          rw [hi, this]
          exact call_run G hf hbd _
        simp only [unwind, ec, callDeferred, Bool.false_and, Bool.false_eq_true, if_false, Sem.runT_eq, hinv, GStep.bare_after]
        rfl
      | _ => cases e1
    | _ => cases e1
  | nil =>
    have hcd : cf.defers = [] := hD
    have hM := F.mode
    cases md with
    | run => exact absurd rfl hmd
    | panicking ch =>
      obtain ⟨cch, hcc, hpl⟩ := hM
      cases cs with
      | nil => cases e
      | cons c rest =>
        cases e
        obtain ⟨cc, ccs', ec, f, g, Fc, Kr, hsplit, hdis⟩ := K.csr
        subst ec
        refine ⟨cc.raise cch, ccs', w, Steps.one (step_lone_go ?_), r, fun _ => False, g, ⟨K.hr, Kr, fun _ h => h.elim, fun i hi => K.f2 i ((hsplit i).2 (.inr hi))⟩, raise_of Fc hpl⟩
        have hcatch : cf.catches P = false := by
          unfold Frame.catches
          split
          · rename_i h1 h2; exact absurd h2 (o3 _ _ _ _ _)
          · rfl
        rw [hun]
        simp only [unwind, hcd, hcc, hcatch, Bool.false_eq_true, if_false, List.cons_append]
        rfl
    | returning =>
      have hcc : cf.mode = .returning := hM
      obtain ⟨f, hf, e1⟩ := ob_eq (show ob (C.p.funcs.get fn) _ = some s' from e)
      obtain ⟨vs, hvs, e2⟩ := ob_eq e1
      rw [G.p] at hf hvs
      have hf := funcs_spec hf
      obtain ⟨v', h1, h2⟩ := results_of (P := P) (C := C) K.hr o1 hvs
      refine return_of K0 F.kind h1 ?_ e2
      rw [hun]
      have hfn : P.funcs[cf.fn]? = some f := by rw [F.fn]; exact hf
      simp only [unwind, hcd, hcc, hfn, Sem.runT_eq, h2, GStep.bare_after]

/-- **ONE STEP OF THE ABSTRACT MACHINE** -/
theorem step_of [Atoms] [iF : Forc] (G : Good P C) {s : AState} {cf : Frame} (S : SR C w0 s cf ccs w) (e : stepA C s = some s') : To P C cs0 w0 cf ccs w s' := by
  obtain ⟨r, fl, fls, K, F⟩ := S
  obtain ⟨⟨fn, nt, tm, todo, df, md, kd, ro⟩, cs, h⟩ := s
  cases md with
  | run => exact todo_of G K F e
  | returning => exact unwind_of G K F (by intro h; cases h) e
  | panicking ch => exact unwind_of G K F (by intro h; cases h) e

/-- **A RUN OF THE ABSTRACT MACHINE** -/
theorem run_of [Atoms] [iF : Forc] (G : Good P C) : ∀ (n : Nat) {s s' : AState} {cf : Frame} {ccs : List Frame} {w : World}, SR C w0 s cf ccs w → runA C n s = some s' → To P C cs0 w0 cf ccs w s' ∧ isEnd s' = true
  | 0, _, _, _, _, _, _, e => by cases e
  | n + 1, s, s', cf, ccs, w, S, e => by
    rcases ci_some (show ci (isEnd s) (some s) (ob (stepA C s) fun s' => runA C n s') = some s' from e) with ⟨he, e1⟩ | ⟨_, e1⟩
    · cases e1
      exact ⟨⟨cf, ccs, w, Steps.refl _ _, S⟩, he⟩
    · obtain ⟨s1, h1, h2⟩ := ob_eq e1
      obtain ⟨cf1, ccs1, w1, st, S1⟩ := step_of (cs0 := cs0) G S h1
      obtain ⟨h3, h4⟩ := run_of G n S1 h2
      exact ⟨Steps_To st h3, h4⟩
end
end Go.Am

namespace Go.Am
open Go Go.RowKit Forc

/-! ## the start -/
/-- the tables that are laid: read, never written -/
structure Laid [At : Atoms] (gl : Nat) (h0 : AHeap) (w : World) : Prop where
  next : h0.next = gl
  size : gl ≤ w.heap.size
  ask : At.Q w
  obj : ∀ g ao, h0.get g = some ao → g < gl ∧ ∃ c t cs fz, ao = .cells c cs.size t false true ∧ w.heap[g]? = some (.cells cs t fz) ∧ ∀ k v, c.get k = some v → lit v = true ∧ cs[k]? = some v

def capOf (w : World) (g : Nat) : Nat :=
  match w.heap[g]? with
  | some (.cells cs _ _) => cs.size
  | _ => 0
def rho0 (gl : Nat) (w : World) : Rho := fun g => if g < gl then some ⟨g, 0, capOf w g⟩ else none

theorem Laid.hr [Atoms] {gl : Nat} {h0 : AHeap} {w : World} (L : Laid gl h0 w) : HR gl (rho0 gl w) h0 w w where
  obj := fun i pb hi => by
    unfold rho0 at hi
    split at hi
    · rename_i hlt
      cases hi
      have hs : i < w.heap.size := Nat.lt_of_lt_of_le hlt L.size
      refine ⟨w.heap[i], by simp [hs], fun ao hao => ?_⟩
      obtain ⟨_, c, t, cs, fz, e1, e2, e3⟩ := L.obj i ao hao
      subst e1
      have e4 : w.heap[i] = .cells cs t fz := by
        have : w.heap[i]? = some w.heap[i] := by simp [hs]
        rw [this] at e2; exact Option.some.inj e2
      have hcap : capOf w i = cs.size := by unfold capOf; rw [e2]
      refine ⟨cs, fz, e4, by show 0 + capOf w i = cs.size; omega, by show cs.size ≤ capOf w i; omega, fun _ => ⟨hcap.symm, rfl⟩, ?_, fun h => by cases h⟩
      intro k v hk
      obtain ⟨h1, h2⟩ := e3 k v hk
      have hlt2 : k < cs.size := by
        rcases Nat.lt_or_ge k cs.size with h | h
        · exact h
        · simp [h] at h2
      exact ⟨hlt2, v, lit_spec h1, by simpa using h2⟩
    · cases hi
  inj := fun i j p q a b hi hj _ _ _ _ e => by
    unfold rho0 at hi hj
    split at hi
    · split at hj
      · cases hi; cases hj; exact e
      · cases hj
    · cases hi
  bnd := fun i pb hi => by
    unfold rho0 at hi
    split at hi
    · rw [L.next]; assumption
    · cases hi
  new := fun i hi => by
    cases hg : h0.get i with
    | none => rfl
    | some ao =>
      have := (L.obj i ao hg).1
      rw [L.next] at hi; omega
  hi := fun i pb a hi ha hl hr => by
    obtain ⟨_, c, t, cs, fz, e1, _, _⟩ := L.obj i a ha
    subst e1
    cases hr
  glob := fun g hg => ⟨capOf w g, by unfold rho0; rw [if_pos hg]⟩
  ask := L.ask
  below := Below.refl _ _
  wf := fun i c n t o ro k v h1 h2 => by
    obtain ⟨_, c', t', cs, fz, e1, e2, e3⟩ := L.obj i _ h1
    cases e1
    obtain ⟨_, h3⟩ := e3 k v h2
    rcases Nat.lt_or_ge k cs.size with h | h
    · exact h
    · simp [h] at h3

/-- the end of a run: what the first frame yields -/
noncomputable def outV (C : Cfg) (f : FuncId) (s : AState) : Option Value :=
  ci (isEnd s && Nat.beq s.fr.fn f && (match s.fr.kind with | .normal => true | _ => false)) (endV C s) none

section
variable {P : Program} {C : Cfg} {w0 w : World} {cs0 : List Frame}

theorem start_of [Atoms] [iF : Forc] (G : Good P C) {r : Rho} {h : AHeap} {f : FuncId} {args cargs : List Value} {fr : AFrame} (H : HR C.gl r h w w) (ha : cvs r args = some cargs) (e : enterA C f args .normal = some fr) :
    SR C w ⟨fr, [], h⟩ (Frame.enter P f ⟨cargs⟩ .normal) [] w := by
  obtain ⟨F, _⟩ := enter_of (X := XTop C h) G ha e
  exact ⟨r, fun _ => False, fun _ => False, ⟨H, ⟨rfl, fun _ h => h⟩, fun _ h => h.elim, fun _ h => h.elim⟩, F⟩

/-- **FROM A STATE TO THE END** -/
theorem end_of [Atoms] [iF : Forc] (G : Good P C) {f : FuncId} {s : AState} {cf : Frame} {v : Value} (S : SR C w0 s cf [] w) (e : outV C f s = some v) (hcs : s.cs = []) :
    ∃ r v', HR C.gl r s.h w0 w ∧ cv r v = some v' ∧ cf.fn = f ∧ cf.leaving P w (.returned v') := by
  obtain ⟨hc, e1⟩ := ci_then e
  obtain ⟨r, fl, fls, K, F⟩ := S
  obtain ⟨⟨fn, nt, tm, todo, df, md, kd, ro⟩, cs, h⟩ := s
  simp only at hcs
  subst hcs
  simp only [Bool.and_eq_true, nbeq] at hc
  obtain ⟨⟨h1, h2⟩, h3⟩ := hc
  have hkd : kd = .normal := by cases kd <;> first | rfl | cases h3
  have hmd : md = .returning ∧ df = [] := by
    cases md with
    | returning => cases df with
      | nil => exact ⟨rfl, rfl⟩
      | cons _ _ => cases h1
    | _ => cases h1
  obtain ⟨hm1, hm2⟩ := hmd
  subst hm1; subst hm2; subst hkd; subst h2
  obtain ⟨fnc, hf, e2⟩ := ob_eq (show ob (C.p.funcs.get fn) _ = some v from e1)
  obtain ⟨vs, hvs, e3⟩ := ob_eq e2
  cases e3
  rw [G.p] at hf hvs
  have hf := funcs_spec hf
  obtain ⟨v', g1, g2⟩ := results_of (P := P) (C := C) K.hr (F.off (by intro h; cases h)).1 hvs
  exact ⟨r, v', K.hr, g1, F.fn, F.mode, F.defers, F.kind, fnc, by rw [F.fn]; exact hf, g2⟩

/-- **A CALL** -/
theorem calls_of [Atoms] [iF : Forc] (G : Good P C) {v : Value} {f : FuncId} {args cargs : List Value} {r : Rho} {h : AHeap} (H : HR C.gl r h w w) (ha : cvs r args = some cargs)
    (hrun : ∀ fr, enterA C f args .normal = some fr → ∀ cf, SR C w ⟨fr, [], h⟩ cf [] w → ∀ cs0, ∃ s cf' w', Steps P (lone cf cs0 w) (lone cf' cs0 w') ∧ SR C w s cf' [] w' ∧ s.cs = [] ∧ outV C f s = some v)
    {fr : AFrame} (e : enterA C f args .normal = some fr) :
    Calls P f ⟨cargs⟩ w (fun en w' => ∃ r' h' v', en = .returned v' ∧ HR C.gl r' h' w w' ∧ cv r' v = some v') := by
  intro cs
  obtain ⟨s, cf', w', st, S, hcs, ho⟩ := hrun fr e _ (start_of G H ha e) cs
  obtain ⟨r', v', H', hv, hfn, hl⟩ := end_of G S ho hcs
  exact ⟨.returned v', w', cf', ⟨r', s.h, v', rfl, H', hv⟩, st, hfn, hl⟩

/-- one run to the end -/
theorem whole_of [Atoms] [iF : Forc] (G : Good P C) {f : FuncId} {s s' : AState} {v : Value} {n : Nat} (e : runA C n s = some s') (ho : outV C f s' = some v) {cf : Frame} (S : SR C w0 s cf [] w) (cs0 : List Frame) :
    ∃ s1 cf' w', Steps P (lone cf cs0 w) (lone cf' cs0 w') ∧ SR C w0 s1 cf' [] w' ∧ s1.cs = [] ∧ outV C f s1 = some v := by
  obtain ⟨⟨cf', ccs', w', st, S'⟩, hend⟩ := run_of (cs0 := cs0) G n S e
  have hcs : s'.cs = [] := by
    unfold isEnd at hend
    cases hq : s'.cs with
    | nil => rfl
    | cons _ _ => rw [hq] at hend; cases hend
  have hccs : ccs' = [] := by
    obtain ⟨r, fl, fls, K, F⟩ := S'
    have := K.csr
    rw [hcs] at this
    exact this.1
  subst hccs
  exact ⟨s', cf', w', by simpa using st, S', hcs, ho⟩
end
end Go.Am

noncomputable section
namespace Go.Am
open Go Go.RowKit Forc

/-! ## long runs, in pieces -/
def iterA [iF : Forc] (C : Cfg) : Nat → AState → Option AState
  | 0, s => some s
  | n + 1, s => ob (stepA C s) fun s' => iterA C n s'

/-- the objects that are kept -/
def keepO (os : T AObj) : List Nat → T AObj → T AObj
  | [], acc => acc
  | i :: l, acc => keepO os l (od acc (ob (os.get i) fun o => some (acc.set i o)))
def isDraw : List AItem → Bool
  | [] => false
  | i :: _ => (match i with | .draw _ _ _ => true | _ => false)
/-- a state, with those objects alone -/
def keepS (keep : List Nat) (s : AState) : Option AState :=
  match s with
  | ⟨⟨fn, nt, tm, todo, df, md, kd, ro⟩, cs, h⟩ => ci (isDraw todo) none (some ⟨⟨fn, nt, tm, todo, df, md, kd, ro⟩, cs, ⟨keepO h.objs keep .e, h.next⟩⟩)
def segA [iF : Forc] (C : Cfg) (n : Nat) (keep : List Nat) (s : AState) : Option AState := ob (iterA C n s) (keepS keep)

section
variable {P : Program} {C : Cfg} {w0 : World} {cs0 : List Frame}

theorem iter_of [Atoms] [iF : Forc] (G : Good P C) : ∀ (n : Nat) {s s' : AState} {cf : Frame} {ccs : List Frame} {w : World}, SR C w0 s cf ccs w → iterA C n s = some s' → To P C cs0 w0 cf ccs w s'
  | 0, s, s', cf, ccs, w, S, e => by
    cases e
    exact ⟨cf, ccs, w, Steps.refl _ _, S⟩
  | n + 1, s, s', cf, ccs, w, S, e => by
    obtain ⟨s1, h1, h2⟩ := ob_eq e
    obtain ⟨cf1, ccs1, w1, st, S1⟩ := step_of (cs0 := cs0) G S h1
    exact Steps_To st (iter_of G n S1 h2)

theorem keepO_get {os : T AObj} : ∀ {l : List Nat} {acc : T AObj} {j : Nat} {a : AObj}, (keepO os l acc).get j = some a → acc.get j = some a ∨ os.get j = some a
  | [], _, _, _, h => .inl h
  | i :: l, acc, j, a, h => by
    rcases keepO_get (l := l) h with h1 | h1
    · cases hq : os.get i with
      | none => rw [hq] at h1; exact .inl h1
      | some o =>
        rw [hq] at h1
        have h2 : (acc.set i o).get j = some a := h1
        rw [T.get_set] at h2
        by_cases e : j = i
        · subst e
          simp at h2; subst h2
          exact .inr hq
        · simp only [e, if_false] at h2; exact .inl h2
    · exact .inr h1

theorem HR.less [Atoms] {gl : Nat} {r : Rho} {h h' : AHeap} {w w' : World} (H : HR gl r h w w') (hg : ∀ i a, h'.get i = some a → h.get i = some a) (hn : h'.next = h.next) : HR gl r h' w w' where
  obj := fun i pb hr => by obtain ⟨o, ho, hh⟩ := H.obj i pb hr; exact ⟨o, ho, fun ao ha => hh ao (hg _ _ ha)⟩
  inj := fun i j p q a b h1 h2 h3 h4 => H.inj i j p q a b h1 h2 (hg _ _ h3) (hg _ _ h4)
  bnd := fun i pb hr => by rw [hn]; exact H.bnd i pb hr
  new := fun i hi => by
    cases hq : h'.get i with
    | none => rfl
    | some a =>
      have := hg _ _ hq
      rw [H.new i (by rw [← hn]; exact hi)] at this; cases this
  hi := fun i pb a h1 h2 => H.hi i pb a h1 (hg _ _ h2)
  glob := H.glob
  ask := H.ask
  below := H.below
  wf := fun i c n t o ro k v h1 h2 => H.wf i c n t o ro k v (hg _ _ h1) h2

theorem TodoR_plainX [Atoms] {r : Rho} {X X' : XR} {nt : Nat} {tm : T Value} {ct : Array Value} {fl : Nat → Prop} {a : List AItem} {c : List Item} (hd : isDraw a = false) (k : TodoR r X nt tm ct fl a c) : TodoR r X' nt tm ct fl a c := by
  cases a with
  | nil => exact k
  | cons i a => cases i <;> first | exact k | cases hd

theorem keep_of [Atoms] [iF : Forc] {keep : List Nat} {s s' : AState} {cf : Frame} {ccs : List Frame} {w : World} (S : SR C w0 s cf ccs w) (e : keepS keep s = some s') : SR C w0 s' cf ccs w := by
  obtain ⟨⟨fn, nt, tm, todo, df, md, kd, ro⟩, cs, h⟩ := s
  obtain ⟨hd, e1⟩ := ci_else e
  cases e1
  obtain ⟨r, fl, fls, K, F⟩ := S
  have hg : ∀ i a, (⟨keepO h.objs keep .e, h.next⟩ : AHeap).get i = some a → h.get i = some a := by
    intro i a hi
    rcases keepO_get hi with h1 | h1
    · rw [T.get_e] at h1; cases h1
    · exact h1
  exact ⟨r, fl, fls, ⟨K.hr.less hg rfl, K.csr, K.f1, K.f2⟩, ⟨F.fn, F.kind, F.round, F.mode, F.defers, fun hm => TodoR_plainX hd (F.run hm), F.off⟩⟩

/-- what is left to be shown of a state: that a run from it yields v -/
def Yields [Atoms] [iF : Forc] (P : Program) (C : Cfg) (f : FuncId) (v : Value) (s : AState) : Prop :=
  ∀ (w0 w : World) (cf : Frame) (ccs cs0 : List Frame), SR C w0 s cf ccs w → ∃ s' cf' w', Steps P (lone cf (ccs ++ cs0) w) (lone cf' cs0 w') ∧ SR C w0 s' cf' [] w' ∧ s'.cs = [] ∧ outV C f s' = some v

theorem Yields.seg [Atoms] [iF : Forc] (G : Good P C) {f : FuncId} {v : Value} {n : Nat} {keep : List Nat} {s s' : AState} (e : segA C n keep s = some s') (Y : Yields P C f v s') : Yields P C f v s := by
  intro w0 w cf ccs cs0 S
  obtain ⟨s1, h1, h2⟩ := ob_eq e
  obtain ⟨cf1, ccs1, w1, st, S1⟩ := iter_of (cs0 := cs0) G n S h1
  obtain ⟨s2, cf2, w2, st2, r⟩ := Y w0 w1 cf1 ccs1 cs0 (keep_of S1 h2)
  exact ⟨s2, cf2, w2, Steps.trans st st2, r⟩
theorem Yields.last [Atoms] [iF : Forc] (G : Good P C) {f : FuncId} {v : Value} {n : Nat} {s s' : AState} (e : runA C n s = some s') (ho : outV C f s' = some v) : Yields P C f v s := by
  intro w0 w cf ccs cs0 S
  obtain ⟨⟨cf', ccs', w', st, S'⟩, hend⟩ := run_of (cs0 := cs0) G n S e
  have hcs : s'.cs = [] := by
    unfold isEnd at hend
    cases hq : s'.cs with
    | nil => rfl
    | cons _ _ => rw [hq] at hend; cases hend
  have hccs : ccs' = [] := by
    obtain ⟨r, fl, fls, K, F⟩ := S'
    have := K.csr
    rw [hcs] at this
    exact this.1
  subst hccs
  exact ⟨s', cf', w', by simpa using st, S', hcs, ho⟩
/-- an end of a run, in one check -/
def lastA [iF : Forc] (C : Cfg) (f : FuncId) (n : Nat) (s : AState) : Option Value := ob (runA C n s) (outV C f)
theorem Yields.end_ [Atoms] [iF : Forc] (G : Good P C) {f : FuncId} {v : Value} {n : Nat} {s : AState} (e : lastA C f n s = some v) : Yields P C f v s := by
  obtain ⟨s', h1, h2⟩ := ob_eq e
  exact Yields.last G h1 h2

/-- **A FUNCTION, CALLED WHERE NOTHING BUT THE LAID TABLES IS KNOWN** -/
theorem Yields.calls [Atoms] [iF : Forc] (G : Good P C) {f : FuncId} {args : List Value} {v : Value} {h : AHeap} {fr : AFrame} (he : enterA C f args .normal = some fr) (Y : Yields P C f v ⟨fr, [], h⟩)
    (hl : litF.all 4 args = true) (hv : lit v = true) {w : World} (L : Laid C.gl h w) : Calls P f ⟨args⟩ w (fun en w' => en = .returned v ∧ Below w.heap.size w w') := by
  have ha : cvs (rho0 C.gl w) args = some args := lits_cv _ 4 args hl
  have hc := calls_of (v := v) G L.hr ha (fun fr' h' cf S cs0 => by
    rw [he] at h'; cases h'
    obtain ⟨s', cf', w', st, r⟩ := Y w w cf [] cs0 S
    exact ⟨s', cf', w', by simpa using st, r⟩) he
  intro cs
  obtain ⟨en, w', fr', ⟨r', h', v', e1, H, hv'⟩, rest⟩ := hc cs
  rw [lit_spec hv] at hv'
  cases hv'
  exact ⟨en, w', fr', ⟨e1, H.below⟩, rest⟩
end
end Go.Am
end


noncomputable section
namespace Go.Am
open Go Go.RowKit Forc

/-! ## functions without a Go body -/
def justTwo {β γ : Type} (l : List β) (f : β → β → Option γ) : Option γ :=
  match l with
  | [] => none
  | a :: l => (match l with | [] => none | b :: l => (match l with | [] => f a b | _ :: _ => none))
def justOne {β γ : Type} (l : List β) (f : β → Option γ) : Option γ :=
  match l with
  | [] => none
  | a :: l => (match l with | [] => f a | _ :: _ => none)
def addI64 [iF : Forc] : Orc := fun args h => justTwo args fun p y => (match p with
  | .pointer a => ob a fun a => spotless a fun b o => onCells (h.get b) fun c n e opn ro => ci ro none (ob (c.get o) fun x => (match x with
    | .int k x => (match y with
      | .int k' y => ci (kEq k .i64 && kEq k' .i64) (ob (mkI .i64 (wrapA .i64 (Int.add x y))) fun v => some (v, h.put b (.cells (c.set o v) n e opn false))) none
      | _ => none)
    | _ => none))
  | _ => none)
def loadI64 : Orc := fun args h => justOne args fun p => (match p with
  | .pointer a => ob a fun a => spotless a fun b o => onCells (h.get b) fun c _ _ _ _ => ob (c.get o) fun x => (match x with
    | .int k x => ci (kEq k .i64) (some (.int k x, h)) none
    | _ => none)
  | _ => none)

section
variable {P : Program} {gl : Nat}

theorem run_store_atomic {a : Addr} {v u : Value} {w : World} (h : w.cell? a = some u) : (store a v .atomic).run P w = (store a v).run P w := by
  cases v <;> simp [store, Sem.run, h]
theorem run_load_atomic {a : Addr} {v : Value} {w : World} (h : w.cell? a = some v) : (load a .atomic).run P w = .ok v w := by
  simp [load, Sem.run, h]

theorem extern_ok [Atoms] {f : FuncId} {fn : Func} (hf : P.funcs[f]? = some fn) (hname : (fn.name == "runtime.NumGoroutine") = false) (hb : fn.body.isNone = true) (hn : Extern.findNext fn = none) {e : Array Value → Sem Value} (he : Extern.find fn = some e)
    {g : Orc} (hg : ∀ {r : Rho} {h : AHeap} {w0 w : World} {args cargs : List Value} {v : Value} {h' : AHeap}, HR gl r h w0 w → cvs r args = some cargs → g args h = some (v, h') →
      h.next ≤ h'.next ∧ ∃ r' w' v', Ext h.next r r' ∧ HR gl r' h' w0 w' ∧ cv r' v = some v' ∧ (e ⟨cargs⟩).run P w = .ok v' w') : OrcOk P gl f g := by
  intro r h w0 w args cargs v h' H ha e1
  obtain ⟨h1, r', w', v', h2, h3, h4, h5⟩ := hg H ha e1
  refine ⟨h1, fun c cs => ⟨r', w', v', h2, h3, h4, .inl ?_⟩⟩
  rw [run_callFunc_extern hf hname hb hn he]
  simp only [h5, Result.andThen_ok]

theorem addI64_ok [Atoms] [iF : Forc] {r : Rho} {h : AHeap} {w0 w : World} {args cargs : List Value} {v : Value} {h' : AHeap} (H : HR gl r h w0 w) (ha : cvs r args = some cargs) (e : addI64 args h = some (v, h')) :
    h.next ≤ h'.next ∧ ∃ r' w' v', Ext h.next r r' ∧ HR gl r' h' w0 w' ∧ cv r' v = some v' ∧ (Extern.Atomic.update (Op.intArith .add) .i64 true ⟨cargs⟩).run P w = .ok v' w' := by
  unfold addI64 justTwo at e
  cases args with
  | nil => cases e
  | cons p args => cases args with
    | nil => cases e
    | cons y args => cases args with
     | cons _ _ => cases e
     | nil =>
      obtain ⟨p', c1, ec, hp, hc1⟩ := cvs_cons ha
      obtain ⟨y', c2, ec2, hy, hc2⟩ := cvs_cons hc1
      subst ec2; subst ec
      cases p with
      | pointer a =>
        obtain ⟨a, ea, e1⟩ := ob_eq (show ob a _ = some (v, h') from e)
        subst ea
        obtain ⟨hs, e2⟩ := spotless_eq e1
        obtain ⟨c, n, t, opn, ro, hg, e3⟩ := onCells_eq e2
        obtain ⟨hro, e4⟩ := ci_else e3
        subst hro
        obtain ⟨x, hx, e5⟩ := ob_eq e4
        obtain ⟨b, eb, hca⟩ := cv_ptr_eq hp
        subst eb
        obtain ⟨_, pb, hpb, eb⟩ := ca_eq hca
        subst eb
        cases x with
        | int k x => cases y with
          | int k' y =>
            obtain ⟨hk, e6⟩ := ci_then (show ci (kEq k .i64 && kEq k' .i64) (ob (mkI .i64 (wrapA .i64 (Int.add x y))) fun v => some (v, h.put a.block (.cells (c.set a.off v) n t opn false))) none = some (v, h') from e5)
            simp only [Bool.and_eq_true] at hk
            have := kEq_eq hk.1; subst this
            have := kEq_eq hk.2; subst this
            rw [mkI_eq, ob_some] at e6
            cases e6
            simp [cvs] at hc2; subst hc2
            have := cv_int_eq hy; subst this
            obtain ⟨x', hx1, hx2⟩ := cell_of H hpb hg hx
            have := cv_int_eq hx1; subst this
            obtain ⟨w', s1, s2⟩ := store_of (P := P) (v := .int .i64 (wrapA .i64 (Int.add x y))) H hpb hg hx rfl rfl
            refine ⟨Nat.le_refl _, r, w', .int .i64 (wrapA .i64 (Int.add x y)), Ext.rfl, s2, rfl, ?_⟩
            have hu : ∀ p y : Value, Extern.Atomic.update (Op.intArith .add) .i64 true ⟨[p, y]⟩ = (do
                let a ← asAddr p
                let old ← Extern.Atomic.read (.int .i64) a
                let new ← Op.intArith .add .i64 (← asInt old) (← asInt y)
                store a new .atomic
                pure new) := fun _ _ => rfl
            rw [hu]
            have hread : (Extern.Atomic.read (.int .i64) ⟨pb.blk, pb.off + a.off, none⟩).run P w = .ok (.int .i64 x) w := by
              unfold Extern.Atomic.read
              simp [run_load_atomic hx2]
            simp only [asAddr, Sem.run_bind, Sem.run_pure, Result.andThen_ok, hread, asInt, asIntOf]
            have hadd : (Op.intArith .add .i64 x y).run P w = .ok (.int .i64 (wrapA .i64 (Int.add x y))) w := by
              rw [wrapA_ok]; rfl
            simp only [hadd, Result.andThen_ok, run_store_atomic hx2, s1]
          | _ => cases e5
        | _ => cases e5
      | _ => cases e

theorem loadI64_ok [Atoms] {r : Rho} {h : AHeap} {w0 w : World} {args cargs : List Value} {v : Value} {h' : AHeap} (H : HR gl r h w0 w) (ha : cvs r args = some cargs) (e : loadI64 args h = some (v, h')) :
    h.next ≤ h'.next ∧ ∃ r' w' v', Ext h.next r r' ∧ HR gl r' h' w0 w' ∧ cv r' v = some v' ∧ (Extern.Atomic.loadT (.int .i64) ⟨cargs⟩).run P w = .ok v' w' := by
  unfold loadI64 justOne at e
  cases args with
  | nil => cases e
  | cons p args => cases args with
    | cons _ _ => cases e
    | nil =>
      obtain ⟨p', c1, ec, hp, hc1⟩ := cvs_cons ha
      subst ec
      simp [cvs] at hc1; subst hc1
      cases p with
      | pointer a =>
        obtain ⟨a, ea, e1⟩ := ob_eq (show ob a _ = some (v, h') from e)
        subst ea
        obtain ⟨hs, e2⟩ := spotless_eq e1
        obtain ⟨c, n, t, opn, ro, hg, e3⟩ := onCells_eq e2
        obtain ⟨x, hx, e5⟩ := ob_eq e3
        obtain ⟨b, eb, hca⟩ := cv_ptr_eq hp
        subst eb
        obtain ⟨_, pb, hpb, eb⟩ := ca_eq hca
        subst eb
        cases x with
        | int k x =>
          obtain ⟨hk, e6⟩ := ci_then (show ci (kEq k .i64) (some (.int k x, h)) none = some (v, h') from e5)
          have := kEq_eq hk; subst this
          cases e6
          obtain ⟨x', hx1, hx2⟩ := cell_of H hpb hg hx
          have := cv_int_eq hx1; subst this
          refine ⟨Nat.le_refl _, r, w, .int .i64 x, Ext.rfl, H, rfl, ?_⟩
          have hu : ∀ p : Value, Extern.Atomic.loadT (.int .i64) ⟨[p]⟩ = (do Extern.Atomic.read (.int .i64) (← asAddr p)) := fun _ => rfl
          rw [hu]
          have hread : (Extern.Atomic.read (.int .i64) ⟨pb.blk, pb.off + a.off, none⟩).run P w = .ok (.int .i64 x) w := by
            unfold Extern.Atomic.read
            simp [run_load_atomic hx2]
          simp only [asAddr, Sem.run_bind, Sem.run_pure, Result.andThen_ok, hread]
        | _ => cases e5
      | _ => cases e
end
end Go.Am
end


noncomputable section
namespace Go.Am
open Go Go.RowKit Forc

/-- where a byte stands first -/
def idxB (c : Nat) : List UInt8 → Nat → Int
  | [], _ => .negSucc 0
  | b :: l, i => ci (Nat.beq b.toNat c) (.ofNat i) (idxB c l (Nat.succ i))
def indexByteS [iF : Forc] : Orc := fun args h => justTwo args fun p y => (match p with
  | .string s => (match y with
    | .int k c => ci (kEq k .u8) (ob (natI c) fun c => ci (Nat.blt c 256) (ob (mkI .i64 (idxB c (strL s) 0)) fun v => some (v, h)) none) none
    | _ => none)
  | _ => none)

section
variable {P : Program} {gl : Nat}

theorem idxB_eq [Atoms] (s : ByteArray) (c : UInt8) : ∀ (l : List UInt8) (i : Nat), s.data.toList.drop i = l →
    idxB c.toNat l i = (match (List.range' i l.length).find? fun i => s[i]! == c with | some i => (i : Int) | none => -1)
  | [], i, _ => rfl
  | b :: l, i, hd => by
    have hb : s.data.toList[i]? = some b := by
      have : (s.data.toList.drop i)[0]? = some b := by rw [hd]; rfl
      simpa using this
    have hs : s[i]! = b := by
      have h2 : s.data[i]? = some b := by rw [← Array.getElem?_toList]; exact hb
      have hi : i < s.size := by
        rcases Nat.lt_or_ge i s.data.size with h | h
        · exact h
        · rw [Array.getElem?_eq_none h] at h2; cases h2
      rw [getElem!_pos s i hi]
      show s.data[i] = b
      have h3 : s.data[i]? = some s.data[i] := by simp
      rw [h3] at h2; exact Option.some.inj h2
    have hd' : s.data.toList.drop (i + 1) = l := by
      have : s.data.toList.drop (i + 1) = (s.data.toList.drop i).drop 1 := by rw [List.drop_drop]
      rw [this, hd]; rfl
    unfold idxB
    rw [List.length_cons, List.range'_succ, List.find?_cons]
    cases hq : Nat.beq b.toNat c.toNat with
    | true =>
      have : b = c := UInt8.toNat_inj.1 (nbeq.1 hq)
      have hbc : (s[i]! == c) = true := by rw [hs, this]; simp
      rw [hbc]; rfl
    | false =>
      have hne : b ≠ c := fun e => nbeq_f.1 hq (by rw [e])
      have hbc : (s[i]! == c) = false := by rw [hs]; simpa using hne
      rw [hbc]
      simp only [ci_false]
      exact idxB_eq s c l (i + 1) hd'

theorem indexByteS_ok [Atoms] [iF : Forc] {r : Rho} {h : AHeap} {w0 w : World} {args cargs : List Value} {v : Value} {h' : AHeap} (H : HR gl r h w0 w) (ha : cvs r args = some cargs) (e : indexByteS args h = some (v, h')) :
    h.next ≤ h'.next ∧ ∃ r' w' v', Ext h.next r r' ∧ HR gl r' h' w0 w' ∧ cv r' v = some v' ∧ (Extern.BytealgIndexByte.indexByte ⟨cargs⟩).run P w = .ok v' w' := by
  unfold indexByteS justTwo at e
  cases args with
  | nil => cases e
  | cons p args => cases args with
    | nil => cases e
    | cons y args => cases args with
     | cons _ _ => cases e
     | nil =>
      obtain ⟨p', c1, ec, hp, hc1⟩ := cvs_cons ha
      obtain ⟨y', c2, ec2, hy, hc2⟩ := cvs_cons hc1
      subst ec2; subst ec
      simp [cvs] at hc2; subst hc2
      cases p with
      | string s => cases y with
        | int k c =>
          obtain ⟨hk, e1⟩ := ci_then (show ci (kEq k .u8) (ob (natI c) fun c => ci (Nat.blt c 256) (ob (mkI .i64 (idxB c (strL s) 0)) fun v => some (v, h)) none) none = some (v, h') from e)
          have := kEq_eq hk; subst this
          obtain ⟨n, hn, e2⟩ := ob_eq e1
          obtain ⟨hlt, e3⟩ := ci_then e2
          have hlt := nblt.1 hlt
          have hcn : c = (n : Int) := by cases c <;> simp [natI] at hn; subst hn; rfl
          subst hcn
          rw [mkI_eq, ob_some] at e3
          cases e3
          have := cv_str_eq hp; subst this
          have := cv_int_eq hy; subst this
          refine ⟨Nat.le_refl _, r, w, .int .i64 (idxB n (strL s) 0), Ext.rfl, H, rfl, ?_⟩
          have hrun := run_indexByte_string (P := P) s (n : Int) w
          have e1 : (Extern.BytealgIndexByte.indexByte ⟨[.string s, .int .u8 n]⟩) = Extern.BytealgIndexByte.indexByte #[.string s, .int .u8 n] := rfl
          rw [e1, hrun]
          congr 2
          unfold firstIdx
          have hc8 : ((n : Int).toNat.toUInt8).toNat = n := by
            show (UInt8.ofNat n).toNat = n
            simp [Nat.mod_eq_of_lt hlt]
          have := idxB_eq s ((n : Int).toNat.toUInt8) (strL s) 0 (by simp [strL])
          rw [hc8, size_strL] at this
          rw [this, List.range_eq_range']
          generalize List.find? _ (List.range' 0 s.size) = q
          cases q <;> rfl
        | _ => cases e
      | _ => cases e
end
end Go.Am
end

