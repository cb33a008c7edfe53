/-
  Summaries of functions that a run may lean on; runs in pieces; the words of the digest.
  Conditions: those that each theorem names.
-/
import Derived.Test.YtlfkmklgbigfaaaGreatDoorAmE
import Derived.Sort.KeysCollected
import Derived.Sort.Walk0
noncomputable section
namespace Go.Am
open Go Go.RowKit Forc

section
variable {P : Program} {gl : Nat} {r : Rho} {h : AHeap} {w0 w w' : World}

/-- a function whose call is known -/
theorem orc_calls [Atoms] {f : FuncId} {fn : Func} (hf : P.funcs[f]? = some fn) (hname : (fn.name == "runtime.NumGoroutine") = false) (hb : fn.body.isNone = false) {g : Orc}
    (hg : ∀ {r : Rho} {h : AHeap} {w0 w : World} {args cargs : List Value} {v : Value} {h' : AHeap}, HR gl r h w0 w → cvs r args = some cargs → g args h = some (v, h') →
      h.next ≤ h'.next ∧ Calls P f ⟨cargs⟩ w (fun e w' => ∃ r' v', e = .returned v' ∧ Ext h.next r r' ∧ HR gl r' h' w0 w' ∧ cv r' v = some v')) : OrcOk P gl f g := by
  intro r h w0 w args cargs v h' H ha e1
  obtain ⟨h1, hc⟩ := hg H ha e1
  refine ⟨h1, fun c cs => ?_⟩
  obtain ⟨e, w', fr, ⟨r', v', e2, h2, h3, h4⟩, st, hfn, hl⟩ := hc (c :: cs)
  subst e2
  refine ⟨r', w', v', h2, h3, h4, .inr ⟨?_, ?_⟩⟩
  · unfold callFunc
    have hpr : (program : Sem Program).run P w = .ok P w := rfl
    simp only [Sem.run_bind, hpr, Result.andThen_ok, hf, hname, hb, Bool.false_eq_true, if_false, Sem.run_pure]
  · exact Steps.trans st (Steps.one (step_leave_returned hl))

/-- a function of nothing, that always yields the same -/
def closedOrc (v : Value) : Orc := fun args h => match args with
  | [] => some (v, h)
  | _ :: _ => none
theorem HR.size [Atoms] (H : HR gl r h w0 w) : gl ≤ w.heap.size := by
  cases gl with
  | zero => exact Nat.zero_le _
  | succ n =>
    obtain ⟨cap, hr⟩ := H.glob n (Nat.lt_succ_self _)
    obtain ⟨o, ho, _⟩ := H.obj n _ hr
    rcases Nat.lt_or_ge n w.heap.size with h1 | h1
    · exact h1
    · simp [h1] at ho
theorem laid_none [At : Atoms] (hs : gl ≤ w.heap.size) (hq : At.Q w) : Laid gl ⟨.e, gl⟩ w := ⟨rfl, hs, hq, fun g ao hg => by
  have : (T.e : T AObj).get g = some ao := hg
  rw [T.get_e] at this; cases this⟩
theorem closed_ok [At : Atoms] [iF : Forc] {C : Cfg} (G : Good P C) {f : FuncId} {fn : Func} {v : Value} {fr : AFrame} (hf : P.funcs[f]? = some fn) (hname : (fn.name == "runtime.NumGoroutine") = false) (hb : fn.body.isNone = false)
    (he : enterA C f [] .normal = some fr) (Y : Yields P C f v ⟨fr, [], ⟨.e, C.gl⟩⟩) (hv : lit v = true) : OrcOk P C.gl f (closedOrc v) := by
  refine orc_calls hf hname hb ?_
  intro r h w0 w args cargs u h' H ha e1
  cases args with
  | cons _ _ => cases e1
  | nil =>
    cases e1
    simp [cvs] at ha
    subst ha
    refine ⟨Nat.le_refl _, ?_⟩
    have hc := Yields.calls G he Y rfl hv (laid_none H.size (At.stay _ _ H.ask H.below))
    intro cs
    obtain ⟨en, w', fr', ⟨e1, hb⟩, rest⟩ := hc cs
    exact ⟨en, w', fr', ⟨r, v, e1, Ext.rfl, H.later hb, lit_spec hv⟩, rest⟩

/-- a function without a Go body, and without memory -/
def pureOrc (P : Program) (e : Array Value → Sem Value) : Orc := fun args h => ci (litF.all 4 args) (ob (pureRun P (e ⟨args⟩)) fun v => ci (lit v) (some (v, h)) none) none
theorem pureOrc_ok [Atoms] {e : Array Value → Sem Value} {args cargs : List Value} {v : Value} {h' : AHeap} (H : HR gl r h w0 w) (ha : cvs r args = some cargs) (q : pureOrc P e args h = some (v, h')) :
    h.next ≤ h'.next ∧ ∃ r' w' v', Ext h.next r r' ∧ HR gl r' h' w0 w' ∧ cv r' v = some v' ∧ (e ⟨cargs⟩).run P w = .ok v' w' := by
  obtain ⟨hl, q1⟩ := ci_then q
  obtain ⟨u, hu, q2⟩ := ob_eq q1
  obtain ⟨hv, q3⟩ := ci_then q2
  cases q3
  rw [lits_cv r 4 args hl] at ha
  cases ha
  exact ⟨Nat.le_refl _, r, w, v, Ext.rfl, H, lit_spec hv, pureRun_ok hu⟩

/-- functions, by their numbers -/
def orcT : List (Nat × Orc) → T Orc
  | [] => .e
  | q :: l => (orcT l).set q.1 q.2
theorem orcT_ok [Atoms] : ∀ {l : List (Nat × Orc)}, (∀ q ∈ l, OrcOk P gl q.1 q.2) → ∀ f g, (orcT l).get f = some g → OrcOk P gl f g
  | [], _, f, g, e => by
    have : (T.e : T Orc).get f = some g := e
    rw [T.get_e] at this; cases this
  | q :: l, hl, f, g, e => by
    have e1 : ((orcT l).set q.1 q.2).get f = some g := e
    rw [T.get_set] at e1
    by_cases hq : f = q.1
    · subst hq
      simp at e1; subst e1
      exact hl q (by simp)
    · simp only [hq, if_false] at e1
      exact orcT_ok (fun x hx => hl x (List.mem_cons_of_mem _ hx)) f g e1
end
end Go.Am
end


noncomputable section
namespace Go.Am
open Go Go.RowKit Forc

/-! ## words by which a state is written down -/
def bL : List Nat → List UInt8
  | [] => []
  | n :: l => UInt8.ofNat n :: bL l
/-- a piece of code, by the way to it -/
def cGo : List Nat → Code → Code
  | [], c => c
  | d :: p, c => (match c with
    | .seq a b => (match d with | 0 => cGo p a | _ => cGo p b)
    | .cond _ a b => (match d with | 0 => cGo p a | _ => cGo p b)
    | .block _ b => cGo p b
    | .loop b => cGo p b
    | .scope b => cGo p b
    | .rangeFunc _ _ a b => (match d with | 0 => cGo p a | _ => cGo p b)
    | _ => .skip)
def cAt (f : Func) (p : List Nat) : Code := match f.body with
  | some c => cGo p c
  | none => .skip
def rAt (f : Func) (p : List Nat) : Array Oper := match cAt f p with
  | .region _ ops _ => ops
  | _ => #[]
def dropL {α : Type} : Nat → List α → List α
  | 0, l => l
  | n + 1, l => (match l with | [] => [] | _ :: l => dropL n l)
def dP (ops : Array Oper) : List PE := od [] (drawPlan ops.toList)
def findP (l : List PE) (i : Nat) : List PE → List PE
  | [] => []
  | e :: r => ci (Nat.beq e.idx i) (e :: l) (findP l i r)
def pickP (d : List PE) : List Nat → List PE
  | [] => []
  | i :: l => findP (pickP d l) i d

section
/-- those temporaries alone -/
def keepT (tm : T Value) : List Nat → T Value → T Value
  | [], acc => acc
  | i :: l, acc => keepT tm l (od acc (ob (tm.get i) fun v => some (acc.set i v)))
/-- a state, with those objects and, of its first frame, those temporaries alone -/
def keepST (keep kt : List Nat) (s : AState) : Option AState :=
  match s with
  | ⟨⟨fn, nt, tm, todo, df, md, kd, ro⟩, cs, h⟩ => ci (isDraw todo) none (some ⟨⟨fn, nt, keepT tm kt .e, todo, df, md, kd, ro⟩, cs, ⟨keepO h.objs keep .e, h.next⟩⟩)
def segT [iF : Forc] (C : Cfg) (n : Nat) (keep kt : List Nat) (s : AState) : Option AState := ob (iterA C n s) (keepST keep kt)

variable {P : Program} {C : Cfg} {w0 : World} {cs0 : List Frame}
theorem keepT_get {os : T Value} : ∀ {l : List Nat} {acc : T Value} {j : Nat} {a : Value}, (keepT os l acc).get j = some a → acc.get j = some a ∨ os.get j = some a
  | [], _, _, _, h => .inl h
  | i :: l, acc, j, a, h => by
    rcases keepT_get (l := l) h with h1 | h1
    · cases hq : os.get i with
      | none => rw [hq] at h1; exact .inl h1
      | some o =>
        rw [hq] at h1
        have h2 : (acc.set i o).get j = some a := h1
        rw [T.get_set] at h2
        by_cases e : j = i
        · subst e
          simp at h2; subst h2
          exact .inr hq
        · simp only [e, if_false] at h2; exact .inl h2
    · exact .inr h1
theorem TR_less [Atoms] {r : Rho} {pend : Nat → Prop} {nt : Nat} {tm tm' : T Value} {ct : Array Value} (hh : ∀ t v, tm'.get t = some v → tm.get t = some v) (k : TR r pend nt tm ct) : TR r pend nt tm' ct :=
  ⟨k.1, fun t v hp hv => k.2 t v hp (hh t v hv)⟩
theorem TodoR_less [Atoms] {r : Rho} {X X' : XR} {nt : Nat} {tm tm' : T Value} {ct : Array Value} {fl : Nat → Prop} {a : List AItem} {c : List Item} (hd : isDraw a = false) (hh : ∀ t v, tm'.get t = some v → tm.get t = some v) (k : TodoR r X nt tm ct fl a c) : TodoR r X' nt tm' ct fl a c := by
  cases a with
  | nil => exact ⟨TR_less hh k.1, k.2⟩
  | cons i a => cases i <;> first | exact ⟨TR_less hh k.1, k.2⟩ | cases hd
theorem keepST_of [Atoms] [iF : Forc] {keep kt : List Nat} {s s' : AState} {cf : Frame} {ccs : List Frame} {w : World} (S : SR C w0 s cf ccs w) (e : keepST keep kt s = some s') : SR C w0 s' cf ccs w := by
  obtain ⟨⟨fn, nt, tm, todo, df, md, kd, ro⟩, cs, h⟩ := s
  obtain ⟨hd, e1⟩ := ci_else e
  cases e1
  obtain ⟨r, fl, fls, K, F⟩ := S
  have hg : ∀ i a, (⟨keepO h.objs keep .e, h.next⟩ : AHeap).get i = some a → h.get i = some a := by
    intro i a hi
    rcases keepO_get hi with h1 | h1
    · rw [T.get_e] at h1; cases h1
    · exact h1
  have ht : ∀ t v, (keepT tm kt .e).get t = some v → tm.get t = some v := by
    intro i a hi
    rcases keepT_get hi with h1 | h1
    · rw [T.get_e] at h1; cases h1
    · exact h1
  refine ⟨r, fl, fls, ⟨K.hr.less hg rfl, K.csr, K.f1, K.f2⟩, ⟨F.fn, F.kind, F.round, F.mode, F.defers, fun hm => TodoR_less hd ht (F.run hm), fun hm => ?_⟩⟩
  obtain ⟨a, b, c⟩ := F.off hm
  exact ⟨TR_less ht a, b, c⟩
theorem Yields.segT [Atoms] [iF : Forc] (G : Good P C) {f : FuncId} {v : Value} {n : Nat} {keep kt : List Nat} {s s' : AState} (e : segT C n keep kt s = some s') (Y : Yields P C f v s') : Yields P C f v s := by
  intro w0 w cf ccs cs0 S
  obtain ⟨s1, h1, h2⟩ := ob_eq e
  obtain ⟨cf1, ccs1, w1, st, S1⟩ := iter_of (cs0 := cs0) G n S h1
  obtain ⟨s2, cf2, w2, st2, r⟩ := Y w0 w1 cf1 ccs1 cs0 (keepST_of S1 h2)
  exact ⟨s2, cf2, w2, Steps.trans st st2, r⟩
end
end Go.Am
end

noncomputable section
namespace Go.Am
open Go

/-- numbers are reckoned out, for runs without unknowns -/
instance kF : Forc where
  fN := fun {β} n k => Nat.rec (motive := fun _ => β) (k 0) (fun m _ => k (Nat.succ m)) n
  fB := fun {β} b k => Bool.rec (motive := fun _ => β) (k false) (k true) b
  lawN := by intro β n k; cases n <;> rfl
  lawB := by intro β b k; cases b <;> rfl
/-- they are handed on as they are, for runs with unknowns -/
@[reducible] def sF : Forc where
  fN := fun n k => k n
  fB := fun b k => k b
  lawN := fun _ _ => rfl
  lawB := fun _ _ => rfl
theorem Forc.one (a b : Forc) : a = b := by
  obtain ⟨f1, g1, l1, m1⟩ := a
  obtain ⟨f2, g2, l2, m2⟩ := b
  have e1 : @f1 = @f2 := by
    funext β n k; rw [l1, l2]
  have e2 : @g1 = @g2 := by
    funext β n k; rw [m1, m2]
  subst e1; subst e2; rfl
end Go.Am
end

noncomputable section
namespace Go.Am
open Go Go.RowKit

/-! ## one row of memory, known for a while -/
section
variable {P : Program} {r : Rho} {h : AHeap} {w0 w : World}
/-- a memory of one row, that is only read -/
def oneRow (l : List Value) (e : TypeId) : AHeap := { objs := (T.e : T AObj).set 0 (.cells (T.ofList l) l.length e true true), next := 1 }
def oneRho (pb : PB) (o : Nat) : Rho := fun i => if i = 0 then some ⟨pb.blk, pb.off + o, pb.cap - o⟩ else none
theorem lit_of_all : ∀ {l : List Value} {k : Nat} {v : Value}, litF.all 4 l = true → l[k]? = some v → lit v = true
  | [], _, _, _, h => by simp at h
  | x :: l, 0, v, hl, h => by
    simp only [litF.all, Bool.and_eq_true] at hl
    simp at h; subst h
    exact hl.1
  | x :: l, k + 1, v, hl, h => by
    simp only [litF.all, Bool.and_eq_true] at hl
    exact lit_of_all hl.2 (by simpa using h)
theorem oneRow_get {l : List Value} {e : TypeId} {i : Nat} {a : AObj} (h : (oneRow l e).get i = some a) : i = 0 ∧ a = .cells (T.ofList l) l.length e true true := by
  have h1 : ((T.e : T AObj).set 0 (.cells (T.ofList l) l.length e true true)).get i = some a := h
  rw [T.get_set] at h1
  by_cases hi : i = 0
  · subst hi; simp at h1; exact ⟨rfl, h1.symm⟩
  · simp only [hi, if_false] at h1; rw [T.get_e] at h1; cases h1
theorem oneRow_of [At : Atoms] (H : HR 0 r h w0 w) {a : Addr} {pb : PB} {n : Nat} {l : List Value} (hp : r a.block = some pb) (hn : 0 < n) (hl : loadCellsA h a n = some l) (hlit : litF.all 4 l = true) :
    ∃ e, HR 0 (oneRho pb a.off) (oneRow l e) w w := by
  obtain ⟨_, e1⟩ := spotless_eq hl
  obtain ⟨c, m, t, opn, ro, hg, e2⟩ := onCells_eq e1
  obtain ⟨o, ho, hh⟩ := H.obj _ _ hp
  obtain ⟨cs, fz, eo, K⟩ := hh _ hg
  subst eo
  have hlen := rd_len e2
  have hget := rd_get e2
  have hlast : a.off + (n - 1) < m := by
    have h1 := hget (n - 1) (by omega)
    have h2 : n - 1 < l.length := by omega
    rw [List.getElem?_eq_getElem h2] at h1
    exact (K.cell _ _ h1.symm).1
  have hle := K.le
  have hsz := K.size
  refine ⟨t, ?_⟩
  have one : ∀ {i : Nat} {q : PB}, oneRho pb a.off i = some q → i = 0 ∧ q = ⟨pb.blk, pb.off + a.off, pb.cap - a.off⟩ := by
    intro i q hq
    unfold oneRho at hq
    by_cases hi : i = 0
    · subst hi; simp at hq; exact ⟨rfl, hq.symm⟩
    · simp [hi] at hq
  constructor
  · intro i q hq
    obtain ⟨e3, e4⟩ := one hq
    subst e3; subst e4
    refine ⟨_, ho, fun ao hao => ?_⟩
    obtain ⟨_, e5⟩ := oneRow_get hao
    subst e5
    refine ⟨cs, fz, rfl, ?_, ?_, (by intro h; cases h), ?_, (by intro h; cases h)⟩
    · show pb.off + a.off + (pb.cap - a.off) = cs.size; omega
    · show l.length ≤ pb.cap - a.off; omega
    · intro k v hk
      rw [T.get_ofList] at hk
      have hkl : k < l.length := by
        rcases Nat.lt_or_ge k l.length with h1 | h1
        · exact h1
        · simp [h1] at hk
      refine ⟨hkl, v, lit_spec (lit_of_all hlit hk), ?_⟩
      have h1 := hget k (by omega)
      rw [hk] at h1
      obtain ⟨_, v', h2, h3⟩ := K.cell _ _ h1.symm
      rw [lit_spec (lit_of_all hlit hk)] at h2
      cases h2
      show cs[pb.off + a.off + k]? = some v
      rw [← h3]; congr 1; omega
  · intro i j p q x y hi hj _ _ _ _ _
    rw [(one hi).1, (one hj).1]
  · intro i q hq
    rw [(one hq).1]; exact Nat.lt_succ_self _
  · intro i hi
    cases hq : (oneRow l t).get i with
    | none => rfl
    | some x =>
      have := (oneRow_get hq).1
      have hi : 1 ≤ i := hi
      omega
  · intro i q x _ hx _ hro
    obtain ⟨_, e5⟩ := oneRow_get hx
    subst e5; cases hro
  · intro g hg; omega
  · exact Below.refl _ _
  · exact At.stay _ _ H.ask H.below
  · intro i c' n' t' o' r' k v h1 h2
    obtain ⟨_, e5⟩ := oneRow_get h1
    cases e5
    rw [T.get_ofList] at h2
    rcases Nat.lt_or_ge k l.length with h3 | h3
    · exact h3
    · simp [h3] at h2

/-- a function that reads so many cells from a place, and yields a constant: 'read' takes the call apart: the arguments for the run, the place, how many cells -/
theorem orc_row [Atoms] [iF : Forc] {C : Cfg} (G : Good P C) (hgl : C.gl = 0) {f : FuncId} {fn : Func} (hf : P.funcs[f]? = some fn) (hname : (fn.name == "runtime.NumGoroutine") = false) (hb : fn.body.isNone = false) {g : Orc}
    (hg : ∀ {args : List Value} {h : AHeap} {v : Value} {h' : AHeap}, g args h = some (v, h') → h' = h ∧ lit v = true ∧ ∃ (pre : List Value) (a : Addr) (n len cap : Nat) (l : List Value), args = pre ++ [.slice (some a) len cap] ∧ litF.all 4 pre = true ∧ cap < capInf ∧ 0 < n ∧ loadCellsA h a n = some l ∧ litF.all 4 l = true ∧
      ∀ e, ∃ fr, enterA C f (pre ++ [.slice (some ⟨0, 0, none⟩) len cap]) .normal = some fr ∧ Yields P C f v ⟨fr, [], oneRow l e⟩) : OrcOk P 0 f g := by
  refine orc_calls hf hname hb ?_
  intro r h w0 w args cargs u h' H ha e1
  obtain ⟨e2, hv, pre, a, n, len, cap, l, e3, hpre, hcap, hn, hl, hlit, hY⟩ := hg e1
  subst e2; subst e3
  obtain ⟨hs, _⟩ := spotless_eq hl
  refine ⟨Nat.le_refl _, ?_⟩
  -- what the arguments stand for
  have key : ∃ pb, r a.block = some pb ∧ cargs = pre ++ [.slice (some ⟨pb.blk, pb.off + a.off, none⟩) len cap] := by
    have h1 : cvs r (pre ++ [.slice (some a) len cap]) = some cargs := ha
    have hp : cvs r pre = some pre := lits_cv r 4 pre hpre
    cases hq : cvs r [.slice (some a) len cap] with
    | none =>
      exfalso
      have : ∀ (l : List Value), cvs r (l ++ [.slice (some a) len cap]) = none := by
        intro l
        induction l with
        | nil => exact hq
        | cons x l ih =>
          rw [List.cons_append]
          unfold cvs
          rw [ih]
          cases cv r x <;> rfl
      rw [this pre] at h1; cases h1
    | some q =>
      rw [cvs_append hp hq] at h1
      cases h1
      obtain ⟨x', c1, ec, hx, hc1⟩ := cvs_cons hq
      simp [cvs] at hc1; subst hc1
      obtain ⟨b, c', eb, hca⟩ := cv_slice_addr (by unfold capInf at hcap; unfold capEmp; omega) hx
      subst eb
      obtain ⟨_, pb, hpb, eb⟩ := ca_eq hca
      have := cv_mk_exact (l := len) hca hcap
      rw [hx] at this
      injection this with this
      refine ⟨pb, hpb, ?_⟩
      rw [ec, this, eb]
  obtain ⟨pb, hpb, ec⟩ := key
  obtain ⟨e, H1⟩ := oneRow_of H hpb hn hl hlit
  obtain ⟨fr, hfr, Y⟩ := hY e
  have ha1 : cvs (oneRho pb a.off) (pre ++ [.slice (some ⟨0, 0, none⟩) len cap]) = some cargs := by
    rw [ec]
    refine cvs_append (lits_cv _ 4 pre hpre) ?_
    have hca : ca (oneRho pb a.off) ⟨0, 0, none⟩ = some ⟨pb.blk, pb.off + a.off, none⟩ := by simp [ca, oneRho]
    have := cv_mk_exact (l := len) hca hcap
    simp only [cvs, this]
  rw [← hgl] at H1
  have hc := calls_of (v := u) G H1 ha1 (fun fr' h'' cf S cs0 => by
    rw [hfr] at h''; cases h''
    obtain ⟨s', cf', w', st, rr⟩ := Y w w cf [] cs0 S
    exact ⟨s', cf', w', by simpa using st, rr⟩) hfr
  intro cs
  obtain ⟨en, w', fr', ⟨r', h', v', e1, H2, hv'⟩, rest⟩ := hc cs
  rw [lit_spec hv] at hv'
  cases hv'
  exact ⟨en, w', fr', ⟨r, u, e1, Ext.rfl, H.later H2.below, lit_spec hv⟩, rest⟩
end
end Go.Am
end

noncomputable section
namespace Go.Am
open Go Go.RowKit

/-! ## the digest's words -/
def M32 : Nat := 4294967296
def hadd (a b : Nat) : Nat := Nat.mod (a + b) 4294967296
def hor (a b : Nat) : Nat := Nat.mod (Nat.lor (Nat.mod a 4294967296) (Nat.mod b 4294967296)) 4294967296
def hxor (a b : Nat) : Nat := Nat.mod (Nat.xor (Nat.mod a 4294967296) (Nat.mod b 4294967296)) 4294967296
def hand (a b : Nat) : Nat := Nat.mod (Nat.land (Nat.mod a 4294967296) (Nat.mod b 4294967296)) 4294967296
def hshl (a n : Nat) : Nat := Nat.mod (a * Nat.pow 2 n) 4294967296
def hshr (a n : Nat) : Nat := Nat.div a (Nat.pow 2 n)
def hdown (a n : Nat) : Nat := hor (hshl a (Nat.sub 32 n)) (hshr a n)
def hcvt (a : Nat) : Nat := Nat.mod a 4294967296
def hbe (b0 b1 b2 b3 : Nat) : Nat := hor (hor (hor (hshl (hcvt b0) 24) (hshl (hcvt b1) 16)) (hshl (hcvt b2) 8)) (hcvt b3)
/-- w[i-16], w[i-15], w[i-7], w[i-2] -/
def hsp (w16 w15 w7 w2 : Nat) : Nat :=
  hadd (hadd (hadd w16 (hxor (hxor (hdown w15 7) (hdown w15 18)) (hshr w15 3))) w7) (hxor (hxor (hdown w2 17) (hdown w2 19)) (hshr w2 10))
/-- (the word that is dropped is there for the kernel's order of unfolding alone) -/
def upd (w : Nat → Nat) (i x : Nat) : Nat → Nat := fun j => (fun (_ : Nat) => Bool.rec (motive := fun _ => Nat) (w j) x (Nat.beq j i)) (hsp 0 0 0 0)
theorem upd_eq (w : Nat → Nat) (i x j : Nat) : upd w i x j = ci (Nat.beq j i) x (w j) := rfl
def hstep (i : Nat) (w : Nat → Nat) : Nat → Nat := upd w i (hsp (w (Nat.sub i 16)) (w (Nat.sub i 15)) (w (Nat.sub i 7)) (w (Nat.sub i 2)))
def hbeAt (b : Nat → Nat) (j : Nat) : Nat := hbe (b (Nat.mul 4 j)) (b (Nat.add (Nat.mul 4 j) 1)) (b (Nat.add (Nat.mul 4 j) 2)) (b (Nat.add (Nat.mul 4 j) 3))
def hinit : Nat → Nat → (Nat → Nat) → (Nat → Nat) → (Nat → Nat)
  | 0, _, _, w => w
  | n + 1, j, b, w => hinit n (Nat.succ j) b (upd w j (hbeAt b j))
def hzero : Nat → Nat := fun _ => 0
def hfirst (b : Nat → Nat) : Nat → Nat := hinit 16 0 b hzero
def hsteps : Nat → Nat → (Nat → Nat) → (Nat → Nat)
  | 0, _, w => w
  | n + 1, i, w => hsteps n (Nat.succ i) (hstep i w)
structure W8 where
  a : Nat
  b : Nat
  c : Nat
  d : Nat
  e : Nat
  f : Nat
  g : Nat
  h : Nat
def ht (k w : Nat) (r : W8) : Nat :=
  hadd (hadd (hadd (hadd r.h (hxor (hxor (hdown r.e 6) (hdown r.e 11)) (hdown r.e 25))) (hxor (hand r.e r.f) (hand (hxor 4294967295 r.e) r.g))) k) w
def hu (r : W8) : Nat :=
  hadd (hxor (hxor (hdown r.a 2) (hdown r.a 13)) (hdown r.a 22)) (hxor (hxor (hand r.a r.b) (hand r.a r.c)) (hand r.b r.c))
def hround (k w : Nat) (r : W8) : W8 := ⟨hadd (ht k w r) (hu r), r.a, r.b, r.c, hadd r.d (ht k w r), r.e, r.f, r.g⟩
def hK : List Nat := [1116352408, 1899447441, 3049323471, 3921009573, 961987163, 1508970993, 2453635748, 2870763221, 3624381080, 310598401, 607225278, 1426881987, 1925078388, 2162078206, 2614888103, 3248222580, 3835390401, 4022224774, 264347078, 604807628, 770255983, 1249150122, 1555081692, 1996064986, 2554220882, 2821834349, 2952996808, 3210313671, 3336571891, 3584528711, 113926993, 338241895, 666307205, 773529912, 1294757372, 1396182291, 1695183700, 1986661051, 2177026350, 2456956037, 2730485921, 2820302411, 3259730800, 3345764771, 3516065817, 3600352804, 4094571909, 275423344, 430227734, 506948616, 659060556, 883997877, 958139571, 1322822218, 1537002063, 1747873779, 1955562222, 2024104815, 2227730452, 2361852424, 2428436474, 2756734187, 3204031479, 3329325298]
def nthN : List Nat → Nat → Nat
  | [], _ => 0
  | a :: l, i => (match i with | 0 => a | i + 1 => nthN l i)
def hrounds : Nat → Nat → (Nat → Nat) → W8 → W8
  | 0, _, _, r => r
  | n + 1, i, w, r => hrounds n (Nat.succ i) w (hround (nthN hK i) (w i) r)
def lst32 (w : Nat → Nat) : Nat → Nat → List Value
  | 0, _ => []
  | n + 1, i => .int .u32 (.ofNat (w i)) :: lst32 w n (Nat.succ i)
def lst8 (b : Nat → Nat) : Nat → Nat → List Value
  | 0, _ => []
  | n + 1, i => .int .u8 (.ofNat (b i)) :: lst8 b n (Nat.succ i)
def lstW (r : W8) : List Value := [.int .u32 (.ofNat r.a), .int .u32 (.ofNat r.b), .int .u32 (.ofNat r.c), .int .u32 (.ofNat r.d), .int .u32 (.ofNat r.e), .int .u32 (.ofNat r.f), .int .u32 (.ofNat r.g), .int .u32 (.ofNat r.h)]
def t64 (f : Nat → Value) : T Value := (.n (.n (.n (.n (.n (.n (.n .e (some (f 63)) .e) (some (f 31)) .e) (some (f 15)) (.n .e (some (f 47)) .e)) (some (f 7)) (.n (.n .e (some (f 39)) .e) (some (f 23)) (.n .e (some (f 55)) .e))) (some (f 3)) (.n (.n (.n .e (some (f 35)) .e) (some (f 19)) (.n .e (some (f 51)) .e)) (some (f 11)) (.n (.n .e (some (f 43)) .e) (some (f 27)) (.n .e (some (f 59)) .e)))) (some (f 1)) (.n (.n (.n (.n .e (some (f 33)) .e) (some (f 17)) (.n .e (some (f 49)) .e)) (some (f 9)) (.n (.n .e (some (f 41)) .e) (some (f 25)) (.n .e (some (f 57)) .e))) (some (f 5)) (.n (.n (.n .e (some (f 37)) .e) (some (f 21)) (.n .e (some (f 53)) .e)) (some (f 13)) (.n (.n .e (some (f 45)) .e) (some (f 29)) (.n .e (some (f 61)) .e))))) (some (f 0)) (.n (.n (.n (.n (.n .e (some (f 32)) .e) (some (f 16)) (.n .e (some (f 48)) .e)) (some (f 8)) (.n (.n .e (some (f 40)) .e) (some (f 24)) (.n .e (some (f 56)) .e))) (some (f 4)) (.n (.n (.n .e (some (f 36)) .e) (some (f 20)) (.n .e (some (f 52)) .e)) (some (f 12)) (.n (.n .e (some (f 44)) .e) (some (f 28)) (.n .e (some (f 60)) .e)))) (some (f 2)) (.n (.n (.n (.n .e (some (f 34)) .e) (some (f 18)) (.n .e (some (f 50)) .e)) (some (f 10)) (.n (.n .e (some (f 42)) .e) (some (f 26)) (.n .e (some (f 58)) .e))) (some (f 6)) (.n (.n (.n .e (some (f 38)) .e) (some (f 22)) (.n .e (some (f 54)) .e)) (some (f 14)) (.n (.n .e (some (f 46)) .e) (some (f 30)) (.n .e (some (f 62)) .e))))))
def t8 (f : Nat → Value) : T Value := (.n (.n (.n (.n .e (some (f 7)) .e) (some (f 3)) .e) (some (f 1)) (.n .e (some (f 5)) .e)) (some (f 0)) (.n (.n .e (some (f 4)) .e) (some (f 2)) (.n .e (some (f 6)) .e)))
def nthW (r : W8) : Nat → Value := fun i => od (.bool false) (nth (lstW r) i)
def haddW (r s : W8) : W8 := ⟨hadd r.a s.a, hadd r.b s.b, hadd r.c s.c, hadd r.d s.d, hadd r.e s.e, hadd r.f s.f, hadd r.g s.g, hadd r.h s.h⟩
def hnext (x : W8) (b : Nat → Nat) : W8 := haddW (hrounds 64 0 (hsteps 48 16 (hfirst b)) x) x

/-! ## the same, quick to reckon out -/
section
open Forc
def qsteps [iF : Forc] : Nat → List Nat → List Nat
  | 0, l => l
  | n + 1, l => fN (hsp (nthN l 15) (nthN l 14) (nthN l 6) (nthN l 1)) fun x => qsteps n (x :: l)
def qfirst [iF : Forc] (b : List Nat) : Nat → Nat → List Nat → List Nat
  | 0, _, acc => acc
  | n + 1, j, acc => fN (hbe (nthN b (Nat.mul 4 j)) (nthN b (Nat.add (Nat.mul 4 j) 1)) (nthN b (Nat.add (Nat.mul 4 j) 2)) (nthN b (Nat.add (Nat.mul 4 j) 3))) fun x => qfirst b n (Nat.succ j) (x :: acc)
def qround [iF : Forc] (k w a b c d e f g h : Nat) (y : Nat → Nat → W8) : W8 :=
  fN (hadd (hadd (hadd (hadd h (hxor (hxor (hdown e 6) (hdown e 11)) (hdown e 25))) (hxor (hand e f) (hand (hxor 4294967295 e) g))) k) w) fun t =>
    fN (hadd t (hadd (hxor (hxor (hdown a 2) (hdown a 13)) (hdown a 22)) (hxor (hxor (hand a b) (hand a c)) (hand b c)))) fun p => fN (hadd d t) fun q => y p q
def qrounds [iF : Forc] : List Nat → List Nat → Nat → Nat → Nat → Nat → Nat → Nat → Nat → Nat → W8
  | [], _, a, b, c, d, e, f, g, h => ⟨a, b, c, d, e, f, g, h⟩
  | k :: ks, ws, a, b, c, d, e, f, g, h => (match ws with
    | [] => ⟨a, b, c, d, e, f, g, h⟩
    | w :: ws => qround k w a b c d e f g h fun p q => qrounds ks ws p a b c q e f g)
def revN : List Nat → List Nat → List Nat
  | [], acc => acc
  | a :: l, acc => revN l (a :: acc)
def qnext [iF : Forc] (x : W8) (b : List Nat) : W8 := haddW (qrounds hK (revN (qsteps 48 (qfirst b 16 0 [])) []) x.a x.b x.c x.d x.e x.f x.g x.h) x

/-- l: the words w 0 .. w (i-1), the last one first -/
def RelW (i : Nat) (w : Nat → Nat) (l : List Nat) : Prop := l.length = i ∧ ∀ j, j < i → nthN l (i - 1 - j) = w j
theorem RelW.step [Atoms] {i : Nat} {w : Nat → Nat} {l : List Nat} (h : RelW i w l) (x : Nat) : RelW (i + 1) (upd w i x) (x :: l) := by
  refine ⟨by simp [h.1], fun j hj => ?_⟩
  rw [upd_eq]
  by_cases e : j = i
  · subst e
    have : (Nat.beq j j) = true := nbeq.2 rfl
    rw [this, ci_true]
    have h0 : j + 1 - 1 - j = 0 := by omega
    rw [h0]; rfl
  · have : (Nat.beq j i) = false := nbeq_f.2 e
    rw [this, ci_false]
    have h1 : i + 1 - 1 - j = (i - 1 - j) + 1 := by omega
    rw [h1]
    exact h.2 j (by omega)
theorem qsteps_of [Atoms] [iF : Forc] : ∀ (n : Nat) {i : Nat} {w : Nat → Nat} {l : List Nat}, 16 ≤ i → RelW i w l → RelW (i + n) (hsteps n i w) (qsteps n l)
  | 0, _, _, _, _, h => h
  | n + 1, i, w, l, hi, h => by
    unfold qsteps hsteps
    rw [fN_eq]
    have e1 : nthN l 15 = w (Nat.sub i 16) := by rw [← h.2 (Nat.sub i 16) (by show i - 16 < i; omega)]; congr 1; show 15 = i - 1 - (i - 16); omega
    have e2 : nthN l 14 = w (Nat.sub i 15) := by rw [← h.2 (Nat.sub i 15) (by show i - 15 < i; omega)]; congr 1; show 14 = i - 1 - (i - 15); omega
    have e3 : nthN l 6 = w (Nat.sub i 7) := by rw [← h.2 (Nat.sub i 7) (by show i - 7 < i; omega)]; congr 1; show 6 = i - 1 - (i - 7); omega
    have e4 : nthN l 1 = w (Nat.sub i 2) := by rw [← h.2 (Nat.sub i 2) (by show i - 2 < i; omega)]; congr 1; show 1 = i - 1 - (i - 2); omega
    rw [e1, e2, e3, e4]
    have := qsteps_of n (i := i + 1) (by omega) (h.step (hsp (w (Nat.sub i 16)) (w (Nat.sub i 15)) (w (Nat.sub i 7)) (w (Nat.sub i 2))))
    have e5 : i + (n + 1) = i + 1 + n := by omega
    rw [e5]; exact this
theorem qfirst_of [Atoms] [iF : Forc] (b : List Nat) : ∀ (n : Nat) {j : Nat} {w : Nat → Nat} {acc : List Nat}, RelW j w acc → RelW (j + n) (hinit n j (nthN b) w) (qfirst b n j acc)
  | 0, _, _, _, h => h
  | n + 1, j, w, acc, h => by
    unfold qfirst hinit
    rw [fN_eq]
    have := qfirst_of b n (j := j + 1) (h.step (hbeAt (nthN b) j))
    have e5 : j + (n + 1) = j + 1 + n := by omega
    rw [e5]; exact this
theorem qround_of [iF : Forc] (k w : Nat) (r : W8) (y : Nat → Nat → W8) : qround k w r.a r.b r.c r.d r.e r.f r.g r.h y = y (hround k w r).a (hround k w r).e := by
  unfold qround
  rw [fN_eq, fN_eq, fN_eq]
  rfl
theorem qrounds_of [Atoms] [iF : Forc] (w : Nat → Nat) : ∀ (n : Nat) {i : Nat} {ks ws : List Nat} (r : W8), ks.length = n → ws.length = n → (∀ j, j < n → nthN ks j = nthN hK (i + j)) → (∀ j, j < n → nthN ws j = w (i + j)) →
    qrounds ks ws r.a r.b r.c r.d r.e r.f r.g r.h = hrounds n i w r
  | 0, i, ks, ws, r, hk, hw, _, _ => by
    cases ks with
    | nil => rfl
    | cons _ _ => simp at hk
  | n + 1, i, ks, ws, r, hk, hw, h1, h2 => by
    cases ks with
    | nil => simp at hk
    | cons k ks => cases ws with
      | nil => simp at hw
      | cons x ws =>
        have e1 : k = nthN hK i := by have := h1 0 (by omega); simpa [nthN] using this
        have e2 : x = w i := by have := h2 0 (by omega); simpa [nthN] using this
        subst e1; subst e2
        unfold qrounds hrounds
        show qround (nthN hK i) (w i) r.a r.b r.c r.d r.e r.f r.g r.h (fun p q => qrounds ks ws p r.a r.b r.c q r.e r.f r.g) = _
        rw [qround_of]
        have h3 : ∀ j, j < n → nthN ks j = nthN hK (i + 1 + j) := by
          intro j hj
          have := h1 (j + 1) (by omega)
          have e : i + (j + 1) = i + 1 + j := by omega
          rw [e] at this; exact this
        have h4 : ∀ j, j < n → nthN ws j = w (i + 1 + j) := by
          intro j hj
          have := h2 (j + 1) (by omega)
          have e : i + (j + 1) = i + 1 + j := by omega
          rw [e] at this; exact this
        exact qrounds_of w n (hround (nthN hK i) (w i) r) (by simpa using hk) (by simpa using hw) h3 h4
theorem revN_eq : ∀ (l acc : List Nat), revN l acc = l.reverse ++ acc
  | [], _ => rfl
  | a :: l, acc => by unfold revN; rw [revN_eq]; simp
theorem nthN_get : ∀ {l : List Nat} {i : Nat}, i < l.length → nthN l i = l.getD i 0
  | [], _, h => by simp at h
  | a :: l, 0, _ => rfl
  | a :: l, i + 1, h => by
    have := nthN_get (l := l) (i := i) (by simpa using h)
    simpa [nthN] using this
theorem qnext_of [Atoms] [iF : Forc] (x : W8) (b : List Nat) : qnext x b = hnext x (nthN b) := by
  unfold qnext hnext
  congr 1
  have h0 : RelW 0 hzero [] := ⟨rfl, fun j hj => by omega⟩
  have h1 : RelW 16 (hfirst (nthN b)) (qfirst b 16 0 []) := qfirst_of b 16 (j := 0) h0
  have h2 := qsteps_of 48 (i := 16) (by omega) h1
  refine qrounds_of _ 64 x rfl (by rw [revN_eq]; simp [h2.1]) (fun j _ => by rw [Nat.zero_add]) ?_
  intro j hj
  rw [Nat.zero_add]
  have h3 := h2.2 j (by omega)
  have hlen := h2.1
  rw [revN_eq, List.append_nil]
  rw [nthN_get (by rw [List.length_reverse, hlen]; omega)]
  rw [nthN_get (by omega)] at h3
  rw [← h3]
  simp only [List.getD_eq_getElem?_getD]
  rw [List.getElem?_reverse (by omega)]
  congr 2
  omega
end
end Go.Am
end

noncomputable section
namespace Go.Am
open Go Go.RowKit

section
open Forc
def natsU (k : IntKind) : List Value → Option (List Nat)
  | [] => some []
  | v :: l => (match v with
    | .int k' n => ci (kEq k' k) (ob (natI n) fun n => ob (natsU k l) fun r => some (n :: r)) none
    | _ => none)
def w8Of : List Nat → Option W8
  | [a, b, c, d, e, f, g, h] => some ⟨a, b, c, d, e, f, g, h⟩
  | _ => none
def w8F [iF : Forc] (r : W8) (y : Value → Option (Value × AHeap)) : Option (Value × AHeap) :=
  fN r.a fun a => fN r.b fun b => fN r.c fun c => fN r.d fun d => fN r.e fun e => fN r.f fun f => fN r.g fun g => fN r.h fun h => y (.agg ⟨lstW ⟨a, b, c, d, e, f, g, h⟩⟩)
/-- the state behind 64 bytes -/
def nextOrc [iF : Forc] : Orc := fun args h => justTwo args fun s b => (match s with
  | .agg xs => (match b with
    | .slice a len cap => ob a fun a => ci (Nat.beq len 64 && Nat.beq cap 64)
        (ob (natsU .u32 xs.toList) fun xs => ob (w8Of xs) fun x => ob (loadCellsA h a 64) fun l => ob (natsU .u8 l) fun bs => w8F (qnext x bs) fun v => some (v, h)) none
    | _ => none)
  | _ => none)
theorem w8F_eq [iF : Forc] (r : W8) (y : Value → Option (Value × AHeap)) : w8F r y = y (.agg ⟨lstW r⟩) := by
  unfold w8F
  simp only [fN_eq]
theorem natsU_eq [Atoms] {k : IntKind} : ∀ {l : List Value} {ns : List Nat}, natsU k l = some ns → l = ns.map fun n => .int k (.ofNat n)
  | [], ns, h => by cases h; rfl
  | v :: l, ns, h => by
    cases v with
    | int k' n =>
      obtain ⟨hk, h1⟩ := ci_then (show ci (kEq k' k) (ob (natI n) fun n => ob (natsU k l) fun r => some (n :: r)) none = some ns from h)
      obtain ⟨m, hm, h2⟩ := ob_eq h1
      obtain ⟨r, hr, h3⟩ := ob_eq h2
      cases h3
      have := kEq_eq hk; subst this
      have hn : n = .ofNat m := by cases n <;> simp [natI] at hm; subst hm; rfl
      subst hn
      rw [natsU_eq hr]; rfl
    | _ => cases h
theorem natsU_lit [Atoms] {k : IntKind} {l : List Value} {ns : List Nat} (h : natsU k l = some ns) : litF.all 4 l = true := by
  rw [natsU_eq h]
  induction ns generalizing l with
  | nil => rfl
  | cons n ns ih => 
    have : natsU k (ns.map fun n => Value.int k (.ofNat n)) = some ns := by
      clear ih h
      induction ns with
      | nil => rfl
      | cons m ns ih2 =>
        show ci (kEq k k) (ob (natI (.ofNat m)) fun n => ob (natsU k (ns.map fun n => Value.int k (.ofNat n))) fun r => some (n :: r)) none = _
        have hk : kEq k k = true := by unfold kEq; exact nbeq.2 rfl
        rw [hk, ci_true, ih2]; rfl
    have := ih this
    show (litF 4 (.int k (.ofNat n)) && litF.all 4 (ns.map fun n => .int k (.ofNat n))) = true
    rw [this]; rfl
theorem lst8_eq [Atoms] (ns : List Nat) : ∀ (n i : Nat), i + n = ns.length → lst8 (nthN ns) n i = (ns.drop i).map fun n => .int .u8 (.ofNat n)
  | 0, i, h => by
    have : ns.drop i = [] := List.drop_eq_nil_of_le (by omega)
    rw [this]; rfl
  | n + 1, i, h => by
    unfold lst8
    have h1 : i < ns.length := by omega
    rw [lst8_eq ns n (i + 1) (by omega), List.drop_eq_getElem_cons h1]
    rw [List.map_cons]
    congr 3
    rw [nthN_get h1]; simp [h1]
theorem w8Of_eq {l : List Nat} {x : W8} (h : w8Of l = some x) : (l.map fun n => Value.int .u32 (.ofNat n)) = lstW x := by
  unfold w8Of at h
  split at h
  · cases h; rfl
  · cases h
end

/-- **THE STATE BEHIND 64 BYTES**, out of the run with unknowns -/
theorem nextOrc_ok [Atoms] {P : Program} {C : Cfg} (G : Good P C) (hgl : C.gl = 0) {f : FuncId} {fn : Func} (hf : P.funcs[f]? = some fn) (hname : (fn.name == "runtime.NumGoroutine") = false) (hb : fn.body.isNone = false)
    (hY : ∀ (e : TypeId) (x : W8) (b : Nat → Nat), ∃ fr, @enterA sF C f [.agg ⟨lstW x⟩, .slice (some ⟨0, 0, none⟩) 64 64] .normal = some fr ∧ Yields (iF := sF) P C f (.agg ⟨lstW (hnext x b)⟩) ⟨fr, [], oneRow (lst8 b 64 0) e⟩) (F : Forc) : OrcOk P 0 f (@nextOrc F) := by
  refine orc_row (iF := sF) G hgl hf hname hb ?_
  intro args h v h' e
  cases args with
  | nil => cases e
  | cons s args => cases args with
    | nil => cases e
    | cons b args => cases args with
      | cons _ _ => cases e
      | nil =>
        cases s with
        | agg xs => cases b with
          | slice a len cap =>
            obtain ⟨a, ea, e1⟩ := ob_eq (show ob a _ = some (v, h') from e)
            subst ea
            obtain ⟨hc, e2⟩ := ci_then e1
            simp only [Bool.and_eq_true, nbeq] at hc
            obtain ⟨hc1, hc2⟩ := hc
            subst hc1; subst hc2
            obtain ⟨ns, hns, e3⟩ := ob_eq e2
            obtain ⟨x, hx, e4⟩ := ob_eq e3
            obtain ⟨l, hl, e5⟩ := ob_eq e4
            obtain ⟨bs, hbs, e6⟩ := ob_eq e5
            rw [w8F_eq (iF := F)] at e6
            cases e6
            have hxs : xs = ⟨lstW x⟩ := by
              apply Array.ext'
              rw [natsU_eq hns, w8Of_eq hx]
            have hlen : bs.length = 64 := by
              have h1 := loadCells_len hl
              rw [natsU_eq hbs, List.length_map] at h1; exact h1
            have hl8 : l = lst8 (nthN bs) 64 0 := by
              rw [lst8_eq bs 64 0 (by omega), natsU_eq hbs]; rfl
            refine ⟨rfl, rfl, [.agg xs], a, 64, 64, 64, l, rfl, ?_, by decide, by omega, hl, natsU_lit hbs, ?_⟩
            · rw [hxs]; rfl
            · intro e
              obtain ⟨fr, h1, h2⟩ := hY e x (nthN bs)
              rw [hxs, hl8, qnext_of (iF := F)]
              exact ⟨fr, h1, h2⟩
          | _ => cases e
        | _ => cases e
end Go.Am
end

noncomputable section
namespace Go.Am
open Go Go.RowKit

/-- a function of its arguments alone, out of a run from nothing -/
theorem pur_of [iF : Forc] {P : Program} {C : Cfg} (G : @Good at0 P C) (hgl : C.gl = 0) {f : FuncId} {fn : Func} (hf : P.funcs[f]? = some fn) (hname : (fn.name == "runtime.NumGoroutine") = false) (hb : fn.body.isNone = false) {g : List Value → Option Value}
    (hg : ∀ args v, g args = some v → litF.all 4 args = true ∧ lit v = true ∧ ∃ fr, enterA C f args .normal = some fr ∧ @Yields at0 iF P C f v ⟨fr, [], ⟨.e, 0⟩⟩) : PurOk P f g := by
  intro args v e
  obtain ⟨h1, h2, fr, h3, Y⟩ := hg args v e
  refine ⟨h1, h2, fun w c cs => ?_⟩
  have L : @Laid at0 C.gl (⟨.e, 0⟩ : AHeap) w := by
    rw [hgl]; exact laid_none (Nat.zero_le _) trivial
  obtain ⟨en, w', fr', ⟨e1, hbel⟩, st, _, hl⟩ := Yields.calls G h3 Y h1 h2 L (c :: cs)
  subst e1
  refine ⟨w', hbel, ?_, Steps.trans st (Steps.one (step_leave_returned hl))⟩
  unfold callFunc
  have hpr : (program : Sem Program).run P w = .ok P w := rfl
  simp only [Sem.run_bind, hpr, Result.andThen_ok, hf, hname, hb, Bool.false_eq_true, if_false, Sem.run_pure]

/-- pure functions, by their numbers -/
def purT : List (Nat × (List Value → Option Value)) → T (List Value → Option Value)
  | [] => .e
  | q :: l => (purT l).set q.1 q.2
theorem purT_ok {P : Program} : ∀ {l : List (Nat × (List Value → Option Value))}, (∀ q ∈ l, PurOk P q.1 q.2) → ∀ f g, (purT l).get f = some g → PurOk P f g
  | [], _, f, g, e => by
    have : (T.e : T (List Value → Option Value)).get f = some g := e
    rw [T.get_e] at this; cases this
  | q :: l, hl, f, g, e => by
    have e1 : ((purT l).set q.1 q.2).get f = some g := e
    rw [T.get_set] at e1
    by_cases hq : f = q.1
    · subst hq
      simp at e1; subst e1
      exact hl q (by simp)
    · simp only [hq, if_false] at e1
      exact purT_ok (fun x hx => hl x (List.mem_cons_of_mem _ hx)) f g e1
theorem no_pur {P : Program} {C : Cfg} (h : C.pur = .e) : ∀ f g, C.pur.get f = some g → PurOk P f g := by
  intro f g e
  rw [h, T.get_e] at e; cases e

section
open Forc
def downN : List Nat := [2, 6, 7, 11, 13, 17, 18, 19, 22, 25]
/-- a word, turned -/
def downP [iF : Forc] : List Value → Option Value := fun args => justTwo args fun x n => (match x with
  | .int k x => (match n with
    | .int k' n => ci (kEq k .u32 && kEq k' .i64) (ob (natI x) fun x => ob (natI n) fun n => ci (memN n downN) (fN (hdown x n) fun y => some (.int .u32 (.ofNat y))) none) none
    | _ => none)
  | _ => none)
end
theorem downP_ok {P : Program} {C : Cfg} (G : @Good at0 P C) (hgl : C.gl = 0) {f : FuncId} {fn : Func} (hf : P.funcs[f]? = some fn) (hname : (fn.name == "runtime.NumGoroutine") = false) (hb : fn.body.isNone = false)
    (hY : ∀ (n : Nat), n ∈ downN → ∀ (x : Nat), ∃ fr, @enterA sF C f [.int .u32 (.ofNat x), .int .i64 (.ofNat n)] .normal = some fr ∧ @Yields at0 sF P C f (.int .u32 (.ofNat (hdown x n))) ⟨fr, [], ⟨.e, 0⟩⟩) (F : Forc) : PurOk P f (@downP F) := by
  refine pur_of (iF := sF) G hgl hf hname hb ?_
  intro args v e
  cases args with
  | nil => cases e
  | cons x args => cases args with
    | nil => cases e
    | cons n args => cases args with
      | cons _ _ => cases e
      | nil =>
        cases x with
        | int k x => cases n with
          | int k' n =>
            obtain ⟨hc, e1⟩ := ci_then (show ci (kEq k .u32 && kEq k' .i64) (ob (natI x) fun x => ob (natI n) fun n => ci (memN n downN) (@Forc.fN F _ (hdown x n) fun y => some (Value.int .u32 (.ofNat y))) none) none = some v from e)
            simp only [Bool.and_eq_true] at hc
            have := kEq_eq hc.1; subst this
            have := kEq_eq hc.2; subst this
            obtain ⟨m, hm, e2⟩ := ob_eq e1
            obtain ⟨j, hj, e3⟩ := ob_eq e2
            obtain ⟨hmem, e4⟩ := ci_then e3
            rw [@Forc.lawN F] at e4
            cases e4
            have hx : x = .ofNat m := by cases x <;> simp [natI] at hm; subst hm; rfl
            have hn : n = .ofNat j := by cases n <;> simp [natI] at hj; subst hj; rfl
            subst hx; subst hn
            exact ⟨rfl, rfl, hY j (memN_iff.1 hmem) m⟩
          | _ => cases e
        | _ => cases e
end Go.Am
end

noncomputable section
namespace Go.Am
open Go Go.RowKit Forc Go.Maps
open Go.WideElems (Fit rg)

/-! ## a map's keys, sorted -/
def insS (x : List UInt8) : List (List UInt8) → List (List UInt8)
  | [] => [x]
  | y :: l => ci (ltB y x) (y :: insS x l) (x :: y :: l)
def sortS : List (List UInt8) → List (List UInt8)
  | [] => []
  | x :: l => insS x (sortS l)
def memS (x : List UInt8) : List (List UInt8) → Bool
  | [] => false
  | y :: l => ci (eqB x y) true (memS x l)
/-- the keys, where none stands twice, no stamp stands twice, all are old, none is long -/
def keysS (clock : Nat) : List MapEntry → List Nat → Option (List (List UInt8))
  | [], _ => some []
  | e :: es, bs => (match e.key with
    | .string s => ci (Nat.blt e.born clock && (not (memN e.born bs) && Nat.ble (lenL (strL s)) 1048576)) (ob (keysS clock es (e.born :: bs)) fun l => ci (memS (strL s) l) none (some (strL s :: l))) none
    | _ => none)
def strVs : List (List UInt8) → List Value
  | [] => []
  | x :: l => strOf x :: strVs l
section
def sortedV [iF : Forc] (h : AHeap) (e : TypeId) : List (List UInt8) → Option (Value × AHeap)
  | [] => some (.slice none 0 0, h)
  | x :: l => fN (lenL (x :: l)) fun n => some (.slice (some ⟨h.next, 0, none⟩) n (Nat.add capInf 1), newRowA h e (strVs (x :: l)) true)
def oneE {β γ : Type} (l : List β) (f : Option γ) : Option γ := match l with | [] => f | _ :: _ => none
/-- g: the function that walks the keys; e: a string's type -/
def sortedOrc [iF : Forc] (g e : Nat) : Orc := fun args h => justOne args fun v => (match v with
  | .func fn bound cap => (match fn with
    | .func g' => ci (Nat.beq g' g) (oneE bound.toList (justOne cap.toList fun p => (match p with
        | .pointer a => ob a fun a => spotless a fun b o => ci (Nat.beq o 0) (onCells (h.get b) fun c _ _ opn _ => ci opn none (ob (c.get 0) fun x => (match x with
          | .map m => ob m fun m => onMap (h.get m) fun es clock => ci (Nat.ble (lenL es) 4096) (ob (keysS clock es []) fun l => sortedV h e (sortS l)) none
          | _ => none))) none
        | _ => none))) none
    | _ => none)
  | _ => none)
end

theorem insS_perm (x : List UInt8) : ∀ l, (insS x l).Perm (x :: l)
  | [] => List.Perm.refl _
  | y :: l => by
    unfold insS
    cases ltB y x with
    | true => rw [ci_true]; exact ((insS_perm x l).cons y).trans (List.Perm.swap x y l)
    | false => rw [ci_false]
theorem sortS_perm [Atoms] : ∀ l, (sortS l).Perm l
  | [] => List.Perm.refl _
  | x :: l => by
    unfold sortS
    exact (insS_perm x _).trans ((sortS_perm l).cons x)
theorem leB_of_not [Atoms] {x y : List UInt8} (h : ltB y x = false) : leB x y = true := by
  rw [ltB_eq, Go.Proofs.bytesLess_eq] at h
  simp only [leB, decide_eq_true_eq]
  simpa using h
theorem leB_of [Atoms] {x y : List UInt8} (h : ltB y x = true) : leB y x = true := by
  rw [ltB_eq, Go.Proofs.bytesLess_eq] at h
  simp only [leB, decide_eq_true_eq]
  exact List.le_of_lt (by simpa using h)
theorem leB_trans {a b c : List UInt8} (h1 : leB a b = true) (h2 : leB b c = true) : leB a c = true := by
  simp only [leB, decide_eq_true_eq] at *; exact List.le_trans h1 h2
theorem insS_sorted [Atoms] (x : List UInt8) : ∀ l, l.Pairwise (fun a b => leB a b = true) → (insS x l).Pairwise (fun a b => leB a b = true)
  | [], _ => by simp [insS]
  | y :: l, h => by
    obtain ⟨h1, h2⟩ := List.pairwise_cons.1 h
    unfold insS
    cases hb : ltB y x with
    | true =>
      rw [ci_true]
      refine List.pairwise_cons.2 ⟨fun z hz => ?_, insS_sorted x l h2⟩
      rcases List.mem_cons.1 ((insS_perm x l).mem_iff.1 hz) with e | e
      · subst e; exact leB_of hb
      · exact h1 z e
    | false =>
      rw [ci_false]
      refine List.pairwise_cons.2 ⟨fun z hz => ?_, h⟩
      rcases List.mem_cons.1 hz with e | e
      · subst e; exact leB_of_not hb
      · exact leB_trans (leB_of_not hb) (h1 z e)
theorem sortS_sorted [Atoms] : ∀ l, (sortS l).Pairwise (fun a b => leB a b = true)
  | [] => List.Pairwise.nil
  | x :: l => insS_sorted x _ (sortS_sorted l)
theorem sortS_eq [Atoms] {l ss : List (List UInt8)} (h : ss.Perm l) : ss.mergeSort leB = sortS l := by
  have tr : ∀ a b c : List UInt8, leB a b = true → leB b c = true → leB a c = true := fun a b c h1 h2 => leB_trans h1 h2
  have to : ∀ a b : List UInt8, (leB a b || leB b a) = true := fun a b => by simp only [leB, Bool.or_eq_true, decide_eq_true_eq]; exact List.le_total a b
  refine List.Perm.eq_of_pairwise (le := fun a b => leB a b = true) (fun a b _ _ h1 h2 => ?_) (List.pairwise_mergeSort tr to ss) (sortS_sorted l) (((List.mergeSort_perm ss leB).trans h).trans (sortS_perm l).symm)
  simp only [leB, decide_eq_true_eq] at h1 h2
  exact List.le_antisymm h1 h2

theorem memS_iff [Atoms] {x : List UInt8} : ∀ {l : List (List UInt8)}, memS x l = true ↔ x ∈ l
  | [] => by simp [memS]
  | y :: l => by
    unfold memS
    cases hb : eqB x y with
    | true =>
      rw [eqB_eq] at hb
      rw [ci_true]
      simp at hb
      simp [hb]
    | false =>
      rw [ci_false, memS_iff]
      rw [eqB_eq] at hb
      have : x ≠ y := by simpa using hb
      simp [this]
abbrev R0 : Value → Option (DataW Unit × List MemPlace) := fun _ => some (.nil, [])
theorem strVs_eq : ∀ l : List (List UInt8), strVs l = l.map Go.Proofs.encStr
  | [] => rfl
  | x :: l => by rw [strVs, strVs_eq l]; rfl
theorem strVs_cv [Atoms] (r : Rho) : ∀ l : List (List UInt8), cvs r (strVs l) = some (strVs l)
  | [] => rfl
  | x :: l => by
    have := strVs_cv r l
    simp only [strVs, cvs, this]
    rfl
/-- what the check tells -/
theorem keysS_of [Atoms] {clock : Nat} {P : Program} {t : TypeId} (ht : P.underlying t = some .string) {r : Rho} : ∀ {es : List MapEntry} {bs : List Nat} {l : List (List UInt8)} {ces : List MapEntry}, keysS clock es bs = some l → ELR r es ces →
    (∀ x ∈ ces, x.born < clock) ∧ (∀ x ∈ ces, x.born ∉ bs) ∧ (ces.map (·.born)).Nodup ∧ ces.map (·.key) = strVs l ∧ l.Nodup ∧ (∀ x ∈ ces, ∃ y, Go.WideElems.rd P t R0 x = some y) ∧ (ces.map fun x => Go.strOf (rg P t R0 x).1) = l
  | [], bs, l, ces, h, k => by
    cases h
    simp only [ELR] at k
    subst k
    simp [strVs]
  | e :: es, bs, l, ces, h, k => by
    obtain ⟨c, cs, e1, hc, k2⟩ := k
    subst e1
    obtain ⟨key, val, born⟩ := e
    cases key with
    | string s =>
      obtain ⟨h1, h2⟩ := ci_then (show ci (Nat.blt born clock && (not (memN born bs) && Nat.ble (lenL (strL s)) 1048576)) (ob (keysS clock es (born :: bs)) fun l => ci (memS (strL s) l) none (some (strL s :: l))) none = some l from h)
      obtain ⟨l2, h3, h4⟩ := ob_eq h2
      obtain ⟨h5, h6⟩ := ci_else h4
      cases h6
      simp only [Bool.and_eq_true, Bool.not_eq_true', nblt, nble] at h1
      obtain ⟨hb, hn, hlen⟩ := h1
      obtain ⟨g1, g2, g3, g4, g5, g6, g7⟩ := keysS_of ht h3 k2
      obtain ⟨ck, cv', cb⟩ := c
      obtain ⟨k3, k4, k5⟩ := hc
      have e3 := cv_str_eq k3
      simp only at e3 k5
      subst e3; subst k5
      have hmem : cb ∉ bs := fun hh => by rw [memN_iff.2 hh] at hn; cases hn
      have hmemS : strL s ∉ l2 := fun hh => by rw [memS_iff.2 hh] at h5; cases h5
      have hstr : (Value.string s) = strOf (strL s) := rfl
      have hrd : Go.WideElems.rd P t R0 ⟨.string s, cv', cb⟩ = some (.string (strL s), .nil) := by
        have hsz : s.size ≤ maxLen := by
          have : lenL (strL s) = s.size := by rw [lenL_eq]; rfl
          rw [this] at hlen
          exact Nat.le_trans hlen (by decide)
        simp [Go.WideElems.rd, keyOf, ht, mapKey, hsz, strL]
      refine ⟨?_, ?_, ?_, ?_, ?_, ?_, ?_⟩
      · intro x hx
        rcases List.mem_cons.1 hx with e | e
        · subst e; exact hb
        · exact g1 x e
      · intro x hx
        rcases List.mem_cons.1 hx with e | e
        · subst e; exact hmem
        · exact fun hh => g2 x e (List.mem_cons_of_mem _ hh)
      · rw [List.map_cons]
        refine List.nodup_cons.2 ⟨fun hh => ?_, g3⟩
        obtain ⟨x, hx, hxb⟩ := List.mem_map.1 hh
        exact g2 x hx (by rw [hxb]; exact List.mem_cons_self)
      · rw [List.map_cons, g4]; rfl
      · exact List.nodup_cons.2 ⟨hmemS, g5⟩
      · intro x hx
        rcases List.mem_cons.1 hx with e | e
        · subst e; exact ⟨_, hrd⟩
        · exact g6 x e
      · rw [List.map_cons, g7, Go.WideElems.rg_of hrd]; rfl
    | _ => cases h

theorem off_zero [Atoms] {gl : Nat} {r : Rho} {h : AHeap} {w0 w : World} (H : HR gl r h w0 w) {i : Nat} {pb : PB} {c : T Value} {n : Nat} {t : TypeId} {ro : Bool} (hr : r i = some pb) (hg : h.get i = some (.cells c n t false ro)) : pb.off = 0 := by
  obtain ⟨o, _, hh⟩ := H.obj i pb hr
  obtain ⟨cs, fz, _, K⟩ := hh _ hg
  exact (K.shut rfl).2
theorem sortedV_of [Atoms] [iF : Forc] {h h' : AHeap} {e : Nat} {l : List (List UInt8)} {v : Value} (q : sortedV h e l = some (v, h')) :
    h.next ≤ h'.next ∧ ((l = [] ∧ v = .slice none 0 0 ∧ h' = h) ∨ (l ≠ [] ∧ v = .slice (some ⟨h.next, 0, none⟩) l.length (capInf + 1) ∧ h' = newRowA h e (strVs l) true)) := by
  cases l with
  | nil => cases q; exact ⟨Nat.le_refl _, .inl ⟨rfl, rfl, rfl⟩⟩
  | cons x l =>
    have q1 : (fN (lenL (x :: l)) fun n => some (Value.slice (some ⟨h.next, 0, none⟩) n (Nat.add capInf 1), newRowA h e (strVs (x :: l)) true)) = some (v, h') := q
    rw [fN_eq, lenL_eq] at q1
    cases q1
    refine ⟨?_, .inr ⟨by simp, rfl, rfl⟩⟩
    unfold newRowA
    rw [next_push]; omega
/-- what is asked of the program's own 'slices.Sorted' at a map's keys -/
def SortedLaw (P : Program) (f g : FuncId) (t : TypeId) : Prop :=
  ∀ (w : World) (Bm b nn : Nat) (D0 : DataW Unit), Bm < w.heap.size → w.cell? ⟨Bm, 0, none⟩ = some (.map (some b)) → w.ownsMap P t R0 b nn D0 → Go.Maps.size D0 ≤ 4096 →
    Calls P f #[.func (.func g) #[] #[.pointer (some ⟨Bm, 0, none⟩)]] w fun e w' => ∃ (v : Value) (ss : List (List UInt8)), e = .returned v ∧ ss.Perm (Go.strKeys D0) ∧
      w'.ownsRow w.heap.size t 1 v ss.length ((ss.mergeSort (fun x y => decide (x ≤ y))).map Go.Proofs.encStr) ∧ (v = .slice none 0 0 ↔ ss = []) ∧ Below w.heap.size w w'

theorem orc_addr [Atoms] {P : Program} {gl : Nat} {f : FuncId} {fn : Func} {t g : Nat} [iF : Forc] (hf : P.funcs[f]? = some fn) (hname : (fn.name == "runtime.NumGoroutine") = false) (hb : fn.body.isNone = false)
    (ht : P.underlying t = some .string) (L : SortedLaw P f g t) : OrcOk P gl f (sortedOrc g t) := by
  refine orc_calls hf hname hb ?_
  intro r h w0 w args cargs v h' H ha e
  cases args with
  | nil => cases e
  | cons u args => cases args with
    | cons _ _ => cases e
    | nil =>
      obtain ⟨u', c1, ec, hu, hc1⟩ := cvs_cons ha
      simp [cvs] at hc1; subst hc1; subst ec
      cases u with
      | func fn bound cap => cases fn with
        | func g' =>
          obtain ⟨hg, e1⟩ := ci_then (show ci (Nat.beq g' g) _ none = some (v, h') from e)
          have := nbeq.1 hg; subst this
          obtain ⟨bound⟩ := bound
          obtain ⟨cap⟩ := cap
          cases bound with
          | cons _ _ => cases e1
          | nil => cases cap with
            | nil => cases e1
            | cons p cap => cases cap with
              | cons _ _ => cases p <;> cases e1
              | nil => cases p with
                | pointer a =>
                  obtain ⟨a, ea, e2⟩ := ob_eq (show ob a _ = some (v, h') from e1)
                  subst ea
                  obtain ⟨hs, e3⟩ := spotless_eq e2
                  obtain ⟨ho, e4⟩ := ci_then e3
                  obtain ⟨c, n, ty, opn, ro, hgc, e5⟩ := onCells_eq e4
                  obtain ⟨hopn, e5b⟩ := ci_else e5
                  obtain ⟨x, hx, e6⟩ := ob_eq e5b
                  cases x with
                  | map m =>
                    obtain ⟨m, em, e7⟩ := ob_eq (show ob m _ = some (v, h') from e6)
                    subst em
                    obtain ⟨es, clock, hm, e8⟩ := onMap_eq e7
                    obtain ⟨hn, e9⟩ := ci_then e8
                    obtain ⟨l, hl, e10⟩ := ob_eq e9
                    -- the function value
                    have hu2 : ∃ pb, r a.block = some pb ∧ u' = .func (.func g') #[] #[.pointer (some ⟨pb.blk, pb.off + a.off, none⟩)] := by
                      have hu3 : cv r (.func (.func g') ⟨[]⟩ ⟨[.pointer (some a)]⟩) = some u' := hu
                      simp only [cv, cfn, cvs] at hu3
                      cases hq : ca r a with
                      | none => rw [hq] at hu3; cases hu3
                      | some a' =>
                        rw [hq] at hu3
                        obtain ⟨_, pb, hpb, e11⟩ := ca_eq hq
                        refine ⟨pb, hpb, ?_⟩
                        cases hu3; rw [e11]
                    obtain ⟨pb, hpb, eu⟩ := hu2
                    have hoff := nbeq.1 ho
                    obtain ⟨x', hx1, hx2⟩ := cell_of H hpb hgc hx
                    obtain ⟨q, ex, hq⟩ := cv_map_eq hx1
                    subst ex
                    have hx2' : w.cell? ⟨pb.blk, pb.off + 0, none⟩ = some (.map (some q.blk)) := hx2
                    subst hopn
                    have hz := off_zero H hpb hgc
                    obtain ⟨om, hom, hhm⟩ := H.obj m q hq
                    obtain ⟨ces, eo, hel⟩ := hhm _ hm
                    subst eo
                    obtain ⟨g1, g2, g3, g4, g5, g6, g7⟩ := keysS_of ht hl hel
                    have hsz : ces.size = es.length := by
                      rw [← ELR_length hel]; rfl
                    rw [lenL_eq] at hn
                    have hn' := nble.1 hn
                    have hown : w.ownsMap P t R0 q.blk ces.size (.map ((ces.toList.map (rg P t R0)).foldr DataW.insert [])) := by
                      refine ⟨ces, clock, hom, ⟨?_, ⟨g1, g3, ?_⟩, g6⟩, Nat.le_refl _, rfl⟩
                      · have : (4096 : Nat) ≤ maxLen := by decide
                        omega
                      · rw [g4, strVs_eq]
                        exact List.Pairwise.map _ (fun a b hab e => hab (Go.encStr_inj e)) g5
                    have hx3 : w.cell? ⟨pb.blk, 0, none⟩ = some (.map (some q.blk)) := by
                      rw [hz] at hx2'; simpa using hx2'
                    have hperm : (Go.strKeys (.map ((ces.toList.map (rg P t R0)).foldr DataW.insert []))).Perm l := by
                      show ((((ces.toList.map (rg P t R0)).foldr DataW.insert [])).map fun p => Go.strOf p.1).Perm l
                      refine ((Go.WideShapes.sorted_perm _).map _).trans ?_
                      rw [List.map_map]
                      exact List.Perm.of_eq g7
                    have hc := L w pb.blk q.blk ces.size _ (World.block_lt_of_cell? w _ hx3) hx3 hown (by
                      have : Go.Maps.size (.map ((ces.toList.map (rg P t R0)).foldr DataW.insert [])) = ces.size := by
                        show (((ces.toList.map (rg P t R0)).foldr DataW.insert [])).length = ces.size
                        rw [Go.length_sorted]; simp
                      rw [this]; omega)
                    have hcap : pb.off + a.off = 0 := by rw [hz, hoff]
                    rw [hcap] at eu
                    subst eu
                    obtain ⟨hle, hres⟩ := sortedV_of (h := h) (e := t) e10
                    refine ⟨hle, ?_⟩
                    intro cs
                    obtain ⟨en, w', fr', ⟨vv, ss, e12, hp, hrow, hnil, hbel⟩, rest⟩ := hc cs
                    have hss : ss.mergeSort leB = sortS l := sortS_eq (hp.trans hperm)
                    have hss2 : (ss.mergeSort fun x y => decide (x ≤ y)) = sortS l := hss
                    rw [hss2] at hrow
                    have hlen : ss.length = (sortS l).length := by
                      rw [← hss, List.length_mergeSort]
                    refine ⟨en, w', fr', ?_, rest⟩
                    rcases hres with ⟨e13, e14, e15⟩ | ⟨e13, e14, e15⟩
                    · have hss0 : ss = [] := List.eq_nil_of_length_eq_zero (by rw [hlen, e13]; rfl)
                      subst e14; subst e15
                      exact ⟨r, _, by rw [e12, hnil.2 hss0], Ext.rfl, H.later hbel, rfl⟩
                    · subst e14; subst e15
                      have hpos : 0 < ss.length := by
                        rw [hlen]
                        cases hq2 : sortS l with
                        | nil => exact absurd hq2 e13
                        | cons _ _ => simp
                      obtain ⟨_, hrow2⟩ := hrow
                      rcases hrow2 with ⟨_, h0⟩ | ⟨g, cap, cur, e16, hge, hcur, hle2, hmax, hcs, htake⟩
                      · omega
                      have hor : OR (r.ext h.next ⟨g, 0, cap⟩) ⟨g, 0, cap⟩ (.cells cur t (0, 0)) (.cells (T.ofList (strVs (sortS l))) (lenL (strVs (sortS l))) t true false) := by
                        have hl2 : (strVs (sortS l)).length = ss.length := by rw [strVs_eq, List.length_map, hlen]
                        refine ⟨cur, (0, 0), rfl, ?_, ?_, (by intro hh; cases hh), ?_, fun _ => .inl rfl⟩
                        · show 0 + cap = cur.size; omega
                        · show lenL (strVs (sortS l)) ≤ cap
                          rw [lenL_eq, hl2]; exact hle2
                        · intro k x2 hk
                          obtain ⟨k1, v', k2, k3⟩ := ofList_cells (strVs_cv (r.ext h.next ⟨g, 0, cap⟩) (sortS l)) hk
                          refine ⟨by rw [lenL_eq]; exact k1, v', k2, ?_⟩
                          show cur[0 + k]? = some v'
                          rw [← strVs_eq] at htake
                          rw [← htake, List.getElem?_take] at k3
                          split at k3
                          · rw [Nat.zero_add, ← Array.getElem?_toList]; exact k3
                          · cases k3
                      have H2 := H.add (w' := w') (pb := ⟨g, 0, cap⟩) (a := .cells (T.ofList (strVs (sortS l))) (lenL (strVs (sortS l))) t true false) (o := .cells cur t (0, 0)) hcur
                        (fun k hk _ => hbel.block k hk) hbel.size hbel.os hbel.tape hbel.output (fun i2 p2 b2 hi2 _ _ e17 => by
                          obtain ⟨o2, ho2, _⟩ := H.obj i2 p2 hi2
                          simp only at e17
                          rw [e17] at ho2
                          simp [Array.getElem?_eq_none hge] at ho2) (Nat.le_trans H.below.size hge) hor
                      refine ⟨_, _, e12, Ext.of H, H2, ?_⟩
                      have hcv := cv_mk_open (r := r.ext h.next ⟨g, 0, cap⟩) (a := ⟨h.next, 0, none⟩) (l := (sortS l).length) (e := 1) (by omega) (by omega) rfl (Rho.ext_same _ _ _) (by
                        show 0 + (sortS l).length * 1 ≤ cap
                        omega)
                      rw [hcv, e16, hlen]
                      simp
                  | _ => cases e6
                | _ => cases e1
        | _ => cases e
      | _ => cases e
end Go.Am
end

noncomputable section
namespace Go.Am
open Go Go.RowKit Forc Go.Maps
open Go.WideElems (rg)

/-! ## how many bytes the files of a disk have -/
section
def fileLen (h : AHeap) : Value → Option Nat
  | .pointer a => ob a fun a => spotless a fun b o => onCells (h.get b) fun c _ _ _ _ => ob (c.get o) fun x => ob (c.get (Nat.succ o)) fun y => (match x with
    | .slice _ l _ => (match y with
      | .slice _ l' _ => some (Nat.add l l')
      | _ => none)
    | _ => none)
  | _ => none
def fileLens [iF : Forc] (h : AHeap) : List MapEntry → Nat → Option Nat
  | [], n => some n
  | e :: es, n => ob (fileLen h e.val) fun k => fN (Nat.add n k) fun n => fileLens h es n
def usedOrc [iF : Forc] : Orc := fun args h => justOne args fun p => (match p with
  | .pointer a => ob a fun a => spotless a fun b o => ci (Nat.beq o 0) (onCells (h.get b) fun c _ _ opn _ => ci opn none (ob (c.get 0) fun x => ob (c.get 1) fun y => (match x with
    | .bool t => ci t (match y with
      | .map m => ob m fun m => onMap (h.get m) fun es clock => ob (keysS clock es []) fun _ => ob (fileLens h es 0) fun n => ci (Nat.ble n 4611686018427387904) (some (.int .i64 (.ofNat n), h)) none
      | _ => none) none
    | _ => none))) none
  | _ => none)
end

def lenOfCell : Option Value → Int
  | some (.slice _ l _) => l
  | _ => 0
def fileW (w : World) (x : MapEntry) : Int :=
  match x.val with
  | .pointer (some a) => lenOfCell (w.cell? ⟨a.block, a.off, none⟩) + lenOfCell (w.cell? ⟨a.block, a.off + 1, none⟩)
  | _ => 0
theorem cv_slice_len [Atoms] {r : Rho} {a : Option Addr} {l c : Nat} {v : Value} (h : cv r (.slice a l c) = some v) : ∃ a' c', v = .slice a' l c' := by
  cases a with
  | none => simp [cv] at h; exact ⟨_, _, h.symm⟩
  | some a =>
    simp only [cv, cslice] at h
    split at h
    · cases h
    · split at h
      · cases h
      · split at h
        · cases h; exact ⟨_, _, rfl⟩
        · split at h
          · split at h
            · cases h; exact ⟨_, _, rfl⟩
            · cases h
          · split at h
            · rename_i hh
              obtain ⟨h0, _⟩ := hh
              subst h0
              split at h
              · cases h; exact ⟨_, _, rfl⟩
              · cases h; exact ⟨_, _, rfl⟩
            · cases h
section
variable {P : Program} {gl : Nat} {r : Rho} {h : AHeap} {w0 w : World}
theorem fileLen_of [Atoms] (H : HR gl r h w0 w) {v v' : Value} {k : Nat} (hv : cv r v = some v') (e : fileLen h v = some k) :
    ∃ fb fo a0 l0 c0 a1 l1 c1, v' = .pointer (some ⟨fb, fo, none⟩) ∧ w.cell? ⟨fb, fo, none⟩ = some (.slice a0 l0 c0) ∧ w.cell? ⟨fb, fo + 1, none⟩ = some (.slice a1 l1 c1) ∧ k = l0 + l1 := by
  cases v with
  | pointer a =>
    obtain ⟨a, ea, e1⟩ := ob_eq (show ob a _ = some k from e)
    subst ea
    obtain ⟨hs, e2⟩ := spotless_eq e1
    obtain ⟨c, n, t, opn, ro, hg, e3⟩ := onCells_eq e2
    obtain ⟨x, hx, e4⟩ := ob_eq e3
    obtain ⟨y, hy, e5⟩ := ob_eq e4
    obtain ⟨b, eb, hca⟩ := cv_ptr_eq hv
    subst eb
    obtain ⟨_, pb, hpb, eb⟩ := ca_eq hca
    subst eb
    cases x with
    | slice a0 l c0 => cases y with
      | slice a1 l' c1 =>
        cases e5
        obtain ⟨x', hx1, hx2⟩ := cell_of H hpb hg hx
        obtain ⟨y', hy1, hy2⟩ := cell_of H hpb hg hy
        obtain ⟨a0', c0', ex⟩ := cv_slice_len hx1
        obtain ⟨a1', c1', ey⟩ := cv_slice_len hy1
        subst ex; subst ey
        exact ⟨_, _, a0', l, c0', a1', l', c1', rfl, hx2, hy2, rfl⟩
      | _ => cases e5
    | _ => cases e5
  | _ => cases e
theorem fileLens_of [Atoms] [iF : Forc] (H : HR gl r h w0 w) : ∀ {es ces : List MapEntry} {n m : Nat}, ELR r es ces → fileLens h es n = some m →
    (∀ x ∈ ces, ∃ fb fo a0 l0 c0 a1 l1 c1, x.val = .pointer (some ⟨fb, fo, none⟩) ∧ w.cell? ⟨fb, fo, none⟩ = some (.slice a0 l0 c0) ∧ w.cell? ⟨fb, fo + 1, none⟩ = some (.slice a1 l1 c1) ∧ fileW w x = (l0 : Int) + l1) ∧
    (m : Int) = n + (ces.map (fileW w)).sum
  | [], ces, n, m, k, e => by
    cases e
    have : ces = [] := k
    subst this
    simp
  | x :: es, ces, n, m, k, e => by
    obtain ⟨c, cs, e1, hc, k2⟩ := k
    subst e1
    obtain ⟨j, hj, e2⟩ := ob_eq (show ob (fileLen h x.val) (fun k => fN (Nat.add n k) fun n => fileLens h es n) = some m from e)
    rw [fN_eq] at e2
    obtain ⟨g1, g2⟩ := fileLens_of H k2 e2
    obtain ⟨fb, fo, a0, l0, c0, a1, l1, c1, q1, q2, q3, q4⟩ := fileLen_of H hc.2.1 hj
    have q5 : fileW w c = (l0 : Int) + l1 := by
      unfold fileW
      rw [q1]
      simp only [q2, q3, lenOfCell]
    refine ⟨fun y hy => ?_, ?_⟩
    · rcases List.mem_cons.1 hy with e3 | e3
      · subst e3; exact ⟨fb, fo, a0, l0, c0, a1, l1, c1, q1, q2, q3, q5⟩
      · exact g1 y e3
    · rw [List.map_cons, List.sum_cons, q5, g2]
      show ((n + j : Nat) : Int) + _ = _
      subst q4
      omega

/-- what is asked of the program's own 'Used' -/
def UsedLaw (P : Program) (f : FuncId) : Prop :=
  ∀ (b bm : Nat) (es : Array MapEntry) (clock : Nat) (g : MapEntry → Int) (w : World), w.cell? ⟨b, 0, none⟩ = some (.bool true) → w.cell? ⟨b, 1, none⟩ = some (.map (some bm)) → w.heap[bm]? = some (.map es clock) → MapKept.Stamped es clock →
    (∀ x ∈ es.toList, ∃ fb fo a0 l0 c0 a1 l1 c1, x.val = .pointer (some ⟨fb, fo, none⟩) ∧ w.cell? ⟨fb, fo, none⟩ = some (.slice a0 l0 c0) ∧ w.cell? ⟨fb, fo + 1, none⟩ = some (.slice a1 l1 c1) ∧ g x = (l0 : Int) + l1) →
    Calls P f #[.pointer (some ⟨b, 0, none⟩)] w fun e w' => e = .returned (.int .i64 (wrap64 ((es.toList.map g).sum))) ∧ Below w.heap.size w w'

theorem used_ok [Atoms] [iF : Forc] {f : FuncId} {fn : Func} {t : TypeId} (hf : P.funcs[f]? = some fn) (hname : (fn.name == "runtime.NumGoroutine") = false) (hb : fn.body.isNone = false)
    (ht : P.underlying t = some .string) (L : UsedLaw P f) : OrcOk P gl f usedOrc := by
  refine orc_calls hf hname hb ?_
  intro r h w0 w args cargs v h' H ha e
  cases args with
  | nil => cases e
  | cons u args => cases args with
    | cons _ _ => cases e
    | nil =>
      obtain ⟨u', c1, ec, hu, hc1⟩ := cvs_cons ha
      simp [cvs] at hc1; subst hc1; subst ec
      cases u with
      | pointer a =>
        obtain ⟨a, ea, e2⟩ := ob_eq (show ob a _ = some (v, h') from e)
        subst ea
        obtain ⟨hs, e3⟩ := spotless_eq e2
        obtain ⟨ho, e4⟩ := ci_then e3
        obtain ⟨c, n, ty, opn, ro, hgc, e5⟩ := onCells_eq e4
        obtain ⟨hopn, e5b⟩ := ci_else e5
        obtain ⟨x, hx, e6⟩ := ob_eq e5b
        obtain ⟨y, hy, e6b⟩ := ob_eq e6
        cases x with
        | bool t2 =>
          obtain ⟨ht2, e6c⟩ := ci_then e6b
          subst ht2
          cases y with
          | map m =>
            obtain ⟨m, em, e7⟩ := ob_eq (show ob m _ = some (v, h') from e6c)
            subst em
            obtain ⟨es, clock, hm, e8⟩ := onMap_eq e7
            obtain ⟨l, hl, e9⟩ := ob_eq e8
            obtain ⟨k, hk, e10⟩ := ob_eq e9
            obtain ⟨hle, e11⟩ := ci_then e10
            cases e11
            obtain ⟨b, eb, hca⟩ := cv_ptr_eq hu
            subst eb
            obtain ⟨_, pb, hpb, eb⟩ := ca_eq hca
            subst eb
            subst hopn
            have hz := off_zero H hpb hgc
            have hoff := nbeq.1 ho
            obtain ⟨x', hx1, hx2⟩ := cell_of H hpb hgc hx
            simp [cv] at hx1; subst hx1
            obtain ⟨y', hy1, hy2⟩ := cell_of H hpb hgc hy
            obtain ⟨q, ey, hq⟩ := cv_map_eq hy1
            subst ey
            obtain ⟨om, hom, hhm⟩ := H.obj m q hq
            obtain ⟨ces, eo, hel⟩ := hhm _ hm
            subst eo
            obtain ⟨g1, g2, g3, g4, g5, g6, g7⟩ := keysS_of ht hl hel
            obtain ⟨p1, p2⟩ := fileLens_of H hel hk
            have hst : MapKept.Stamped ces clock := ⟨g1, g3, by
              rw [g4, strVs_eq]
              exact List.Pairwise.map _ (fun a b hab e => hab (Go.encStr_inj e)) g5⟩
            have e12 : pb.off + a.off = 0 := by rw [hz, hoff]
            rw [e12]
            rw [hz] at hx2 hy2
            have hc := L pb.blk q.blk ces clock (fileW w) w hx2 hy2 hom hst p1
            refine ⟨Nat.le_refl _, ?_⟩
            intro cs
            obtain ⟨en, w', fr', ⟨e13, hbel⟩, rest⟩ := hc cs
            refine ⟨en, w', fr', ⟨r, .int .i64 (.ofNat k), ?_, Ext.rfl, H.later hbel, rfl⟩, rest⟩
            have hle' := nble.1 hle
            rw [e13]
            have e14 : (ces.toList.map (fileW w)).sum = (k : Int) := by rw [p2]; simp
            have e15 : wrap64 (k : Int) = (k : Int) := by unfold wrap64; omega
            rw [e14, e15]; rfl
          | _ => cases e6c
        | _ => cases e6b
      | _ => cases e
end
end Go.Am
end

noncomputable section
namespace Go.Am
open Go

/-! ## the digest's words, cut -/
theorem hrounds_succ (n i : Nat) (w : Nat → Nat) (r : W8) : hrounds (n + 1) i w r = hrounds n (i + 1) w (hround (nthN hK i) (w i) r) := by
  conv => lhs; unfold hrounds
theorem hrounds_zero (i : Nat) (w : Nat → Nat) (r : W8) : hrounds 0 i w r = r := by
  conv => lhs; unfold hrounds
theorem hrounds_add [Atoms] : ∀ (m n i : Nat) (w : Nat → Nat) (r : W8), hrounds (m + n) i w r = hrounds n (i + m) w (hrounds m i w r)
  | 0, n, i, w, r => by rw [Nat.zero_add, Nat.add_zero, hrounds_zero]
  | m + 1, n, i, w, r => by
    have e : m + 1 + n = (m + n) + 1 := by omega
    have e2 : i + (m + 1) = i + 1 + m := by omega
    rw [e, hrounds_succ, hrounds_succ, hrounds_add m n (i + 1), e2]
theorem hsteps_succ (n i : Nat) (w : Nat → Nat) : hsteps (n + 1) i w = hsteps n (i + 1) (hstep i w) := by rw [hsteps]
theorem hsteps_add [Atoms] : ∀ (m n i : Nat) (w : Nat → Nat), hsteps (m + n) i w = hsteps n (i + m) (hsteps m i w)
  | 0, n, i, w => by rw [Nat.zero_add, Nat.add_zero, hsteps]
  | m + 1, n, i, w => by
    have e : m + 1 + n = (m + n) + 1 := by omega
    have e2 : i + (m + 1) = i + 1 + m := by omega
    rw [e, hsteps_succ, hsteps_succ, hsteps_add m n (i + 1), e2]
theorem hinit_succ (n j : Nat) (b w : Nat → Nat) : hinit (n + 1) j b w = hinit n (j + 1) b (upd w j (hbeAt b j)) := by rw [hinit]
theorem hinit_add [Atoms] : ∀ (m n j : Nat) (b w : Nat → Nat), hinit (m + n) j b w = hinit n (j + m) b (hinit m j b w)
  | 0, n, j, b, w => by rw [Nat.zero_add, Nat.add_zero, hinit]
  | m + 1, n, j, b, w => by
    have e : m + 1 + n = (m + n) + 1 := by omega
    have e2 : j + (m + 1) = j + 1 + m := by omega
    rw [e, hinit_succ, hinit_succ, hinit_add m n (j + 1), e2]
end Go.Am
end

noncomputable section
namespace Go.Am
open Go Go.RowKit Forc

/-! ## a call with values of which nothing is known -/
/-- those values, by number -/
@[reducible] def atomsOf (l : List Value) (hl : ∀ v ∈ l, v.oneCell' = true ∧ v.cells = #[v] ∧ ∀ b, v ≠ .bool b) (Q : World → Prop) (hQ : ∀ w w', Q w → Below w.heap.size w w' → Q w') : Atoms where
  tab := fun k => l[k]?
  one := fun _ v h => (hl v (List.mem_of_getElem? h)).1
  cells := fun _ v h => (hl v (List.mem_of_getElem? h)).2.1
  noBool := fun _ v b h => (hl v (List.mem_of_getElem? h)).2.2 b
  Q := Q
  stay := hQ
/-- a function that yields a constant at just these arguments -/
def patOrc (pat : List Value) (v : Value) : Orc := fun args h => ci (veqs pat args) (some (v, h)) none
theorem patOrc_ok [At : Atoms] {P : Program} {gl : Nat} {f : FuncId} {fn : Func} {pat X : List Value} {v : Value} (hf : P.funcs[f]? = some fn) (hname : (fn.name == "runtime.NumGoroutine") = false) (hb : fn.body.isNone = false)
    (hv : lit v = true) (hX : ∀ r, cvs r pat = some X) (K : ∀ w0 w, At.Q w0 → Below w0.heap.size w0 w → Calls P f ⟨X⟩ w (fun e w' => e = .returned v ∧ Below w.heap.size w w')) : OrcOk P gl f (patOrc pat v) := by
  refine orc_calls hf hname hb ?_
  intro r h w0 w args cargs u h' H ha e1
  obtain ⟨e2, e3⟩ := ci_then e1
  have := veqs_eq 6 e2
  subst this
  cases e3
  rw [hX r] at ha
  cases ha
  refine ⟨Nat.le_refl _, ?_⟩
  intro cs
  obtain ⟨en, w', fr', ⟨e4, hb⟩, rest⟩ := K w0 w H.ask H.below cs
  exact ⟨en, w', fr', ⟨r, v, e4, Ext.rfl, H.later hb, lit_spec hv⟩, rest⟩

/-- a run from nothing but such values -/
theorem Yields.callsA [At : Atoms] [iF : Forc] {P : Program} {C : Cfg} (G : Good P C) (hgl : C.gl = 0) {f : FuncId} {args cargs : List Value} {v : Value} {fr : AFrame} (he : enterA C f args .normal = some fr) (Y : Yields P C f v ⟨fr, [], ⟨.e, 0⟩⟩)
    (ha : ∀ r, cvs r args = some cargs) (hv : lit v = true) {w : World} (hq : At.Q w) : Calls P f ⟨cargs⟩ w (fun en w' => en = .returned v ∧ Below w.heap.size w w') := by
  have L : Laid C.gl (⟨.e, 0⟩ : AHeap) w := by
    rw [hgl]; exact laid_none (Nat.zero_le _) hq
  have hc := calls_of (v := v) G L.hr (ha _) (fun fr' h' cf S cs0 => by
    rw [he] at h'; cases h'
    obtain ⟨s', cf', w', st, r⟩ := Y w w cf [] cs0 S
    exact ⟨s', cf', w', by simpa using st, r⟩) he
  intro cs
  obtain ⟨en, w', fr', ⟨r', h', v', e1, H, hv'⟩, rest⟩ := hc cs
  rw [lit_spec hv] at hv'
  cases hv'
  exact ⟨en, w', fr', ⟨e1, H.below⟩, rest⟩
end Go.Am
end

noncomputable section
namespace Go.Am
open Go Go.RowKit Forc

/-! ## runs with values that are known to be what they are by a proof alone -/
/-- a temporary of the first frame, told anew -/
def setT (t : Nat) (v : Value) (s : AState) : AState :=
  match s with
  | ⟨⟨fn, nt, tm, todo, df, md, kd, ro⟩, cs, h⟩ => ⟨⟨fn, nt, tm.set t v, todo, df, md, kd, ro⟩, cs, h⟩
def tmpAt (t : Nat) (s : AState) : Option Value := ci (isDraw s.fr.todo) none (s.fr.tmps.get t)
section
variable {P : Program} {C : Cfg} {w0 : World}
theorem setT_of [Atoms] [iF : Forc] {s : AState} {t : Nat} {v : Value} {cf : Frame} {ccs : List Frame} {w : World} (S : SR C w0 s cf ccs w) (e : tmpAt t s = some v) : SR C w0 (setT t v s) cf ccs w := by
  obtain ⟨⟨fn, nt, tm, todo, df, md, kd, ro⟩, cs, h⟩ := s
  obtain ⟨hd, e1⟩ := ci_else e
  obtain ⟨r, fl, fls, K, F⟩ := S
  have ht : ∀ j a, (tm.set t v).get j = some a → tm.get j = some a := by
    intro j a hj
    rw [T.get_set] at hj
    by_cases e2 : j = t
    · subst e2
      simp at hj; subst hj
      exact e1
    · simp only [e2, if_false] at hj; exact hj
  refine ⟨r, fl, fls, ⟨K.hr, K.csr, K.f1, K.f2⟩, ⟨F.fn, F.kind, F.round, F.mode, F.defers, fun hm => TodoR_less hd ht (F.run hm), fun hm => ?_⟩⟩
  obtain ⟨a, b, c⟩ := F.off hm
  exact ⟨TR_less ht a, b, c⟩
/-- a run in which, behind n steps, a temporary is told anew -/
def lastS (C : Cfg) [iF : Forc] (f : FuncId) (n t : Nat) (v : Value) (m : Nat) (s : AState) : Option Value := ob (iterA C n s) fun s1 => lastA C f m (setT t v s1)
theorem Yields.assume [Atoms] [iF : Forc] (G : Good P C) {f : FuncId} {u v0 v1 : Value} {n t m : Nat} {s : AState} (h1 : ob (iterA C n s) (tmpAt t) = some v0) (hv : v0 = v1) (h2 : lastS C f n t v1 m s = some u) : Yields P C f u s := by
  intro w0 w cf ccs cs0 S
  obtain ⟨s1, e1, e2⟩ := ob_eq h1
  obtain ⟨s2, e3, e4⟩ := ob_eq h2
  rw [e1] at e3
  cases e3
  subst hv
  obtain ⟨cf1, ccs1, w1, st, S1⟩ := iter_of (cs0 := cs0) G n S e1
  obtain ⟨s3, cf3, w3, st3, r⟩ := Yields.end_ G e4 w0 w1 cf1 ccs1 cs0 (setT_of S1 e2)
  exact ⟨s3, cf3, w3, Steps.trans st st3, r⟩

/-- places of which nothing is known but that they are there -/
theorem hr_bare [At : Atoms] {n : Nat} {r : Rho} {w : World} (hb : ∀ i pb, r i = some pb → i < n ∧ ∃ o, w.heap[pb.blk]? = some o) (hq : At.Q w) : HR 0 r ⟨.e, n⟩ w w where
  obj := fun i pb hi => by
    obtain ⟨_, o, ho⟩ := hb i pb hi
    exact ⟨o, ho, fun ao ha => by
      have : (T.e : T AObj).get i = some ao := ha
      rw [T.get_e] at this; cases this⟩
  inj := fun i _ _ _ a _ _ _ ha _ _ _ _ => by
    have : (T.e : T AObj).get i = some a := ha
    rw [T.get_e] at this; cases this
  bnd := fun i pb hi => (hb i pb hi).1
  new := fun i _ => T.get_e i
  hi := fun i _ a _ ha _ _ => by
    have : (T.e : T AObj).get i = some a := ha
    rw [T.get_e] at this; cases this
  glob := fun g hg => by omega
  below := Below.refl _ _
  ask := hq
  wf := fun i c n' t o ro k v ha _ => by
    have : (T.e : T AObj).get i = some (.cells c n' t o ro) := ha
    rw [T.get_e] at this; cases this
theorem Yields.callsB [Atoms] [iF : Forc] (G : Good P C) (hgl : C.gl = 0) {f : FuncId} {args cargs : List Value} {v : Value} {fr : AFrame} {n : Nat} {r : Rho} {w : World} (he : enterA C f args .normal = some fr) (Y : Yields P C f v ⟨fr, [], ⟨.e, n⟩⟩)
    (H : HR 0 r ⟨.e, n⟩ w w) (ha : cvs r args = some cargs) (hv : lit v = true) : Calls P f ⟨cargs⟩ w (fun en w' => en = .returned v ∧ Below w.heap.size w w') := by
  rw [← hgl] at H
  have hc := calls_of (v := v) G H ha (fun fr' h' cf S cs0 => by
    rw [he] at h'; cases h'
    obtain ⟨s', cf', w', st, r⟩ := Y w w cf [] cs0 S
    exact ⟨s', cf', w', by simpa using st, r⟩) he
  intro cs
  obtain ⟨en, w', fr', ⟨r', h', v', e1, H, hv'⟩, rest⟩ := hc cs
  rw [lit_spec hv] at hv'
  cases hv'
  exact ⟨en, w', fr', ⟨e1, H.below⟩, rest⟩
end
end Go.Am
end

noncomputable section
namespace Go.Am
open Go Go.RowKit Forc

/-- a function that yields a constant at a slice of one element, whose cells are just these -/
def rowPat (n : Nat) (pat : List Value) (v : Value) : Orc := fun args h => justOne args fun s => (match s with
  | .slice a len cap => ob a fun a => ci (Nat.beq a.off 0 && (Nat.beq len 1 && Nat.beq cap 1)) (onCells (h.get a.block) fun _ _ _ opn _ => ci opn none (ob (loadCellsA h a n) fun l => ci (veqs pat l) (some (v, h)) none)) none
  | _ => none)
theorem rowPat_ok [At : Atoms] {P : Program} {gl : Nat} {f : FuncId} {fn : Func} {n : Nat} {pat X : List Value} {v : Value} (hf : P.funcs[f]? = some fn) (hname : (fn.name == "runtime.NumGoroutine") = false) (hb : fn.body.isNone = false)
    (hv : lit v = true) (hX : ∀ r, cvs r pat = some X)
    (K : ∀ w0 w b, At.Q w0 → Below w0.heap.size w0 w → (∀ k x, X[k]? = some x → w.cell? ⟨b, k, none⟩ = some x) → Calls P f #[.slice (some ⟨b, 0, none⟩) 1 1] w (fun e w' => e = .returned v ∧ Below w.heap.size w w')) : OrcOk P gl f (rowPat n pat v) := by
  refine orc_calls hf hname hb ?_
  intro r h w0 w args cargs u h' H ha e
  cases args with
  | nil => cases e
  | cons s args => cases args with
    | cons _ _ => cases e
    | nil =>
      obtain ⟨s', c1, ec, hs, hc1⟩ := cvs_cons ha
      simp [cvs] at hc1; subst hc1; subst ec
      cases s with
      | slice a len cap =>
        obtain ⟨a, ea, e1⟩ := ob_eq (show ob a _ = some (u, h') from e)
        subst ea
        obtain ⟨hc, e2⟩ := ci_then e1
        obtain ⟨c, m, t, opn, ro, hg, e3⟩ := onCells_eq e2
        obtain ⟨hopn, e4⟩ := ci_else e3
        subst hopn
        obtain ⟨l, hl, e5⟩ := ob_eq e4
        obtain ⟨hq, e6⟩ := ci_then e5
        cases e6
        have hpl := veqs_eq 6 hq
        subst hpl
        simp only [Bool.and_eq_true, nbeq] at hc
        obtain ⟨ho, hl1, hc1⟩ := hc
        subst hl1; subst hc1
        obtain ⟨b, c', eb, hca⟩ := cv_slice_addr (by unfold capEmp; omega) hs
        subst eb
        obtain ⟨_, pb, hpb, eb⟩ := ca_eq hca
        have hz := off_zero H hpb hg
        have hm := cv_mk_exact (l := 1) (c := 1) hca (by unfold capInf; omega)
        rw [hs] at hm
        injection hm with hm
        rw [hm, eb, hz, ho]
        refine ⟨Nat.le_refl _, ?_⟩
        have hcells : ∀ k x, X[k]? = some x → w.cell? ⟨pb.blk, k, none⟩ = some x := by
          intro k x hk
          have hXr := hX r
          have hlen := cvs_length hXr
          have hk2 : k < pat.length := by
            rcases Nat.lt_or_ge k X.length with h1 | h1
            · omega
            · simp [h1] at hk
          obtain ⟨v', h1, h2⟩ := cvs_get hXr (List.getElem?_eq_getElem hk2)
          rw [hk] at h2
          cases h2
          obtain ⟨hsp, e7⟩ := spotless_eq hl
          obtain ⟨c2, m2, t2, opn2, ro2, hg2, e8⟩ := onCells_eq e7
          rw [hg] at hg2
          cases hg2
          have hn := rd_len e8
          have h3 := rd_get e8 k (by omega)
          rw [List.getElem?_eq_getElem hk2] at h3
          obtain ⟨x', h4, h5⟩ := cell_of H hpb hg h3.symm
          rw [h1] at h4
          cases h4
          rw [← h5, hz, ho]
          congr 2
          omega
        have hcc := K w0 w pb.blk H.ask H.below hcells
        intro cs
        obtain ⟨en, w', fr', ⟨e9, hbel⟩, rest⟩ := hcc cs
        exact ⟨en, w', fr', ⟨r, v, e9, Ext.rfl, H.later hbel, lit_spec hv⟩, rest⟩
      | _ => cases e
end Go.Am
end
