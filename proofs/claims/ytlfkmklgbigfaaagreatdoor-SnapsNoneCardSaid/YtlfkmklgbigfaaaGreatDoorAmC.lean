/-
  More operations are sound.
  Conditions: those that each theorem names.
-/
import Derived.Test.YtlfkmklgbigfaaaGreatDoorAmB
namespace Go.Am
open Go Go.RowKit Forc

section
variable {gl : Nat} {r : Rho} {h : AHeap} {w0 w : World} {P : Program}

/-! ## bytes -/
theorem bytesOf_run [Atoms] : ∀ {l l' : List Value} {b : List UInt8} (acc : ByteArray), cvs r l = some l' → bytesOfCells l = some b →
    (forIn l' acc fun c s => (match c with
      | .int .u8 n => pure (ForInStep.yield (s.push (UInt8.ofNat n.toNat)))
      | _ => do
        let _ ← (stuck "bytesToString: byte expected" : Sem PUnit)
        pure (ForInStep.yield s) : Sem (ForInStep ByteArray))).run P w = .ok ⟨⟨acc.data.toList ++ b⟩⟩ w
  | [], _, _, acc, hl, hb => by
    simp [cvs] at hl; subst hl
    cases hb
    simp
  | v :: l, _, b, acc, hl, hb => by
    obtain ⟨v', k, rfl, h1, h2⟩ := cvs_cons hl
    cases v with
    | int kd n =>
      obtain ⟨hk, hb1⟩ := ci_then hb
      have := kEq_eq hk; subst this
      obtain ⟨m, hm, hb2⟩ := ob_eq hb1
      obtain ⟨rest, hr, hb3⟩ := ob_eq hb2
      cases hb3
      have := cv_int_eq h1; subst this
      cases n with
      | ofNat a =>
        cases hm
        simp only [List.forIn_cons, Sem.run_bind, Sem.run_pure, Result.andThen_ok]
        rw [bytesOf_run _ h2 hr]
        simp
      | negSucc a => cases hm
    | _ => cases hb

theorem isU8_eq [Atoms] {d : TypeDesc} (h : isU8 d = true) : d = .int .u8 := by
  cases d <;> simp [isU8] at h
  rw [kEq_eq h]

theorem run_bytesToString [Atoms] {l l' : List Value} {b : List UInt8} {a : Addr} {len c : Nat} (hl : cvs r l = some l') (hb : bytesOfCells l = some b)
    (hrun : (loadCells a len).run P w = .ok ⟨l'⟩ w) : (Conv.bytesToString (.slice (some a) len c)).run P w = .ok (.string ⟨⟨b⟩⟩) w := by
  unfold Conv.bytesToString
  simp only [Sem.run_bind, hrun, Result.andThen_ok]
  rw [← Array.forIn_toList]
  have := bytesOf_run (P := P) (w := w) ByteArray.empty hl hb
  have h2 : (forIn l' ByteArray.empty fun c s => (match c with
      | .int .u8 n => pure (ForInStep.yield (s.push (UInt8.ofNat n.toNat)))
      | _ => do
        let _ ← (stuck "bytesToString: byte expected" : Sem PUnit)
        pure (ForInStep.yield s) : Sem (ForInStep ByteArray))).run P w = .ok ⟨⟨b⟩⟩ w := by rw [this]; simp
  simp only []
  refine Eq.trans (congrArg (fun q => Result.andThen q _) h2) ?_
  rfl

theorem convQ_of [Atoms] [iF : Forc] (H : HR gl r h w0 w) {src dst : TypeId} {x x' v : Value} (hx : cv r x = some x') (e : convQ (AP.of P) h src dst x = some v) :
    ∃ v', cv r v = some v' ∧ (convert src dst x').run P w = .ok v' w := by
  obtain ⟨sd, hs, e1⟩ := ob_eq e
  obtain ⟨dd, hd, e2⟩ := ob_eq e1
  have hs := und_spec hs
  have hd := und_spec hd
  clear e e1
  cases dd with
  | int k =>
    cases x with
    | int k' n =>
      have e3 : mkI k (wrapA k n) = some v := e2
      rw [mkI_eq, wrapA_ok] at e3
      cases e3
      have := cv_int_eq hx; subst this
      exact ⟨_, rfl, by unfold convert; cases sd <;> simp [run_underlying' w hs, run_underlying' w hd, Conv.intToInt]⟩
    | float k' b =>
      have := cv_float_eq hx; subst this
      obtain ⟨h1, h2⟩ := litO_ok e2
      exact ⟨_, h2 r, pureRun_ok h1⟩
    | _ => cases e2
  | float k =>
    cases x with
    | int k' n =>
      have := cv_int_eq hx; subst this
      obtain ⟨h1, h2⟩ := litO_ok e2
      exact ⟨_, h2 r, pureRun_ok h1⟩
    | float k' b =>
      have := cv_float_eq hx; subst this
      obtain ⟨h1, h2⟩ := litO_ok e2
      exact ⟨_, h2 r, pureRun_ok h1⟩
    | _ => cases e2
  | string =>
    cases x with
    | string s =>
      cases e2
      have := cv_str_eq hx; subst this
      exact ⟨_, rfl, by unfold convert; cases sd <;> simp [run_underlying' w hs, run_underlying' w hd]⟩
    | slice a len cap =>
      cases sd with
      | slice et =>
        obtain ⟨ed, hed, e3⟩ := ob_eq e2
        have hed := und_spec hed
        obtain ⟨hu, e4⟩ := ci_then e3
        have := isU8_eq hu; subst this
        cases a with
        | none =>
          cases e4
          have := cv_slice_none hx; subst this
          refine ⟨_, rfl, ?_⟩
          unfold convert
          simp only [Sem.run_bind, run_underlying' w hs, run_underlying' w hd, run_underlying' w hed, Result.andThen_ok]
          rfl
        | some a =>
          rcases ci_some e4 with ⟨hc, e5⟩ | ⟨hc, e5⟩
          · obtain ⟨l, hl, e6⟩ := ob_eq e5
            obtain ⟨b, hb, e7⟩ := ob_eq e6
            cases e7
            obtain ⟨b', c', rfl, hca⟩ := cv_slice_addr (nblt.1 hc) hx
            obtain ⟨l', h1, h2⟩ := loadCells_of (P := P) H hca hl
            refine ⟨_, rfl, ?_⟩
            unfold convert
            simp only [Sem.run_bind, run_underlying' w hs, run_underlying' w hd, run_underlying' w hed, Result.andThen_ok]
            exact run_bytesToString h1 hb h2
          · obtain ⟨hl0, e6⟩ := ci_then e5
            cases e6
            have hl0 := nbeq.1 hl0; subst hl0
            obtain ⟨b', c', rfl⟩ := cv_slice_some hx
            refine ⟨_, rfl, ?_⟩
            unfold convert
            simp only [Sem.run_bind, run_underlying' w hs, run_underlying' w hd, run_underlying' w hed, Result.andThen_ok]
            exact run_bytesToString (r := r) (l := []) (l' := []) (b := []) (by simp [cvs]) rfl (by simp [loadCells, loadCellsFrom])
      | _ => cases e2
    | _ => cases e2
  | _ => cases e2
end
end Go.Am

namespace Go.Am
open Go Go.RowKit Forc

section
variable {gl : Nat} {r : Rho} {h : AHeap} {w0 w : World} {P : Program}

/-! ## keys -/
theorem isIntV_eq {v : Value} (e : isIntV v = true) : ∃ k n, v = .int k n := by cases v <;> simp [isIntV] at e; exact ⟨_, _, rfl⟩
theorem allInts_cv [Atoms] : ∀ {l : List Value}, allInts l = true → cvs r l = some l
  | [], _ => by simp [cvs]
  | v :: l, e => by
    have e1 : ci (isIntV v) (allInts l) false = true := e
    cases hv : isIntV v with
    | false => rw [hv] at e1; cases e1
    | true =>
      rw [hv] at e1
      obtain ⟨k, n, rfl⟩ := isIntV_eq hv
      exact cvs_mk_cons (by simp [cv]) (allInts_cv e1)
theorem keyOk_cv [Atoms] {kk : KeyKind} {v : Value} (e : keyOk kk v = true) : cv r v = some v := by
  cases kk with
  | int => obtain ⟨k, n, rfl⟩ := isIntV_eq e; simp [cv]
  | str => cases v <;> simp [keyOk] at e; simp [cv]
  | bool => cases v <;> simp [keyOk] at e; simp [cv]
  | ints n =>
    cases v <;> simp [keyOk] at e
    rename_i x
    obtain ⟨l⟩ := x
    have e1 : ci (allInts l) (Nat.beq (lenL l) n) false = true := e
    cases hv : allInts l with
    | false => rw [hv] at e1; cases e1
    | true => simp only [cv, allInts_cv hv]

/-- what a type of keys is -/
theorem keyKind_inv [Atoms] {d : TypeDesc} {kk : KeyKind} (e : keyKindD (AP.of P) d = some kk) :
    (∃ k, d = .int k ∧ kk = .int) ∨ (d = .string ∧ kk = .str) ∨ (d = .bool ∧ kk = .bool) ∨
    (∃ n et k i, d = .array n et ∧ kk = .ints n ∧ P.underlying et = some (.int k) ∧ (AP.of P).und et = some (.int k) ∧ (AP.of P).size et = some 1 ∧ P.info? et = some i ∧ i.size = 1) := by
  cases d with
  | int k => cases e; exact .inl ⟨k, rfl, rfl⟩
  | string => cases e; exact .inr (.inl ⟨rfl, rfl⟩)
  | bool => cases e; exact .inr (.inr (.inl ⟨rfl, rfl⟩))
  | array n et =>
    obtain ⟨d2, hd, e1⟩ := ob_eq e
    obtain ⟨s, hs, e2⟩ := ob_eq e1
    obtain ⟨hc, e3⟩ := ci_then e2
    cases e3
    simp only [Bool.and_eq_true, nbeq] at hc
    obtain ⟨h1, rfl⟩ := hc
    obtain ⟨i, hi, hi1⟩ := size_spec hs
    cases d2 <;> simp [isIntD] at h1
    exact .inr (.inr (.inr ⟨n, et, _, i, rfl, rfl, und_spec hd, hd, hs, hi, hi1⟩))
  | _ => cases e

theorem intEq_inv [Atoms] {v u : Value} {b : Bool} (e : intEq v u = some b) : ∃ k m n, v = .int k m ∧ u = .int k n ∧ b = (m == n) := by
  cases v <;> cases u <;> simp only [intEq] at e <;> try (cases e; done)
  obtain ⟨hk, e1⟩ := ci_then e
  have := kEq_eq hk; subst this
  cases e1
  exact ⟨_, _, _, rfl, rfl, eqI_eq _ _⟩

theorem intEqs_elems [Atoms] {et : TypeId} {k : IntKind} (hu : (AP.of P).und et = some (.int k)) (d : Nat) : ∀ (m i : Nat) (xs ys : List Value) (b : Bool), (xs.drop i).length = m → intEqs (xs.drop i) (ys.drop i) = some b →
    eqElems (AP.of P) (equalA (AP.of P) (d + 1)) et 1 xs ys m i = some b
  | 0, i, xs, ys, b, hm, e => by
    have : xs.drop i = [] := List.length_eq_zero_iff.1 hm
    rw [this] at e
    cases hy : ys.drop i with
    | nil => rw [hy] at e; exact e
    | cons _ _ => rw [hy] at e; cases e
  | m + 1, i, xs, ys, b, hm, e => by
    cases hx : xs.drop i with
    | nil => rw [hx] at hm; cases hm
    | cons x xs1 =>
      rw [hx] at e hm
      cases hy : ys.drop i with
      | nil => rw [hy] at e; cases e
      | cons y ys1 =>
        rw [hy] at e
        obtain ⟨c, hc, e1⟩ := ob_eq e
        obtain ⟨kd, p, q, rfl, rfl, rfl⟩ := intEq_inv hc
        have gx : xs[i]? = some (.int kd p) := by
          have := congrArg List.head? hx
          simpa using this
        have gy : ys[i]? = some (.int kd q) := by
          have := congrArg List.head? hy
          simpa using this
        have dx : xs.drop (i + 1) = xs1 := by
          have := congrArg List.tail hx
          simpa using this
        have dy : ys.drop (i + 1) = ys1 := by
          have := congrArg List.tail hy
          simpa using this
        have px : ∀ {l : List Value} {v : Value}, l[i]? = some v → partA (AP.of P) et l (Nat.mul i 1) = some v := by
          intro l v hv
          unfold partA
          rw [hu]
          simp only [ob_some, isAggD, ci_false, nth_eq]
          show l[i * 1]? = some v
          rw [Nat.mul_one]; exact hv
        unfold eqElems
        rw [px gx, px gy]
        simp only [ob_some]
        have hq : equalA (AP.of P) (d + 1) et (.int kd p) (.int kd q) = some (p == q) := by
          unfold equalA
          rw [hu]
          simp only [ob_some, eqD]
          have : kEq kd kd = true := by cases kd <;> rfl
          rw [this, ci_true, eqI_eq]
        rw [hq, ob_some]
        cases hpq : (p == q) with
        | false => rw [hpq] at e1; exact e1
        | true =>
          rw [hpq] at e1
          simp only [ci_true] at e1 ⊢
          refine intEqs_elems hu d m (i + 1) xs ys b ?_ ?_
          · rw [dx]; simpa using hm
          · rw [dx, dy]; exact e1

theorem keyIs_same [Atoms] {kk : KeyKind} {v u : Value} (e : keyIs kk v u = some true) : v = u := by
  cases kk with
  | int => obtain ⟨k, m, n, rfl, rfl, hb⟩ := intEq_inv e; simp at hb; rw [hb]
  | str =>
    cases v <;> cases u <;> simp only [keyIs] at e <;> try (cases e; done)
    rw [eqB_eq] at e
    have := Option.some.inj e
    rw [beq_iff_eq] at this
    congr 1
    apply ByteArray.ext
    apply Array.ext'
    exact this
  | bool =>
    cases v <;> cases u <;> simp only [keyIs] at e <;> try (cases e; done)
    rw [bEq_eq] at e
    have := Option.some.inj e
    rw [beq_iff_eq] at this
    rw [this]
  | ints n =>
    cases v <;> cases u <;> simp only [keyIs] at e <;> try (cases e; done)
    rename_i a b
    obtain ⟨x⟩ := a; obtain ⟨y⟩ := b
    have key : ∀ (x y : List Value), intEqs x y = some true → x = y := by
      intro x
      induction x with
      | nil => intro y e; cases y with
        | nil => rfl
        | cons _ _ => cases e
      | cons v x ih =>
        intro y e
        cases y with
        | nil => cases e
        | cons u y =>
          obtain ⟨c, hc, e1⟩ := ob_eq e
          obtain ⟨kd, p, q, rfl, rfl, rfl⟩ := intEq_inv hc
          cases hpq : (p == q) with
          | false => rw [hpq] at e1; cases e1
          | true =>
            rw [hpq] at e1
            rw [ih y e1, eq_of_beq hpq]
    rw [key x y e]

/-- a key held against a map's -/
theorem key_eq_run [Atoms] {kt : TypeId} {d : TypeDesc} {kk : KeyKind} {v u u' : Value} {b : Bool} (hd0 : (AP.of P).und kt = some d) (hk : keyKindD (AP.of P) d = some kk) (hv : keyOk kk v = true) (hu : cv r u = some u')
    (e : keyIs kk v u = some b) : (Op.equal kt v u').run P w = .ok b w ∧ (Instr.sameNow d v u' = some b ∨ ∃ n et, d = .array n et) := by
  have hcv : cv r v = some v := keyOk_cv hv
  rcases keyKind_inv hk with ⟨k, rfl, rfl⟩ | ⟨rfl, rfl⟩ | ⟨rfl, rfl⟩ | ⟨n, et, k, i, rfl, rfl, h1, h2, h3, h4, h5⟩
  · obtain ⟨kd, p, q, rfl, rfl, rfl⟩ := intEq_inv e
    have := cv_int_eq hu; subst this
    refine ⟨equal_of (r := r) ?_ hcv hu, .inl (by simp [Instr.sameNow])⟩
    unfold equalA
    rw [hd0]
    have : kEq kd kd = true := by cases kd <;> rfl
    simp only [ob_some, eqD]
    rw [this, ci_true, eqI_eq]
  · cases v <;> cases u <;> simp only [keyIs] at e <;> try (cases e; done)
    have := cv_str_eq hu; subst this
    refine ⟨equal_of (r := r) ?_ hcv hu, .inl ?_⟩
    · unfold equalA
      rw [hd0]
      simp only [ob_some, eqD]; exact e
    · rw [eqB_eq] at e
      simp only [Instr.sameNow, beq_toListBytes, ByteArray.toList_eq]; exact e
  · cases v <;> cases u <;> simp only [keyIs] at e <;> try (cases e; done)
    have := cv_bool_eq hu; subst this
    refine ⟨equal_of (r := r) ?_ hcv hu, .inl ?_⟩
    · unfold equalA
      rw [hd0]
      simp only [ob_some, eqD]; exact e
    · rw [bEq_eq] at e
      simp only [Instr.sameNow]; exact e
  · cases v <;> cases u <;> simp only [keyIs] at e <;> try (cases e; done)
    rename_i a c
    obtain ⟨x⟩ := a; obtain ⟨y⟩ := c
    refine ⟨equal_of (r := r) ?_ hcv hu, .inr ⟨n, et, rfl⟩⟩
    unfold equalA
    rw [hd0]
    simp only [ob_some, eqD, h3]
    have hlen : x.length = n := by
      have e1 : ci (allInts x) (Nat.beq (lenL x) n) false = true := hv
      cases hq : allInts x with
      | false => rw [hq] at e1; cases e1
      | true => rw [hq] at e1; rw [← lenL_eq]; exact nbeq.1 e1
    exact intEqs_elems h2 98 n 0 x y b (by simpa using hlen) (by simpa using e)

theorem run_checkKey_of [Atoms] {kt : TypeId} {d : TypeDesc} {kk : KeyKind} {v : Value} (hd : P.underlying kt = some d) (hk : keyKindD (AP.of P) d = some kk) (hv : keyOk kk v = true) (em : Bool) (m : Nat) :
    (Instr.checkKey em (m + 2) kt v).run P w = .ok () w := by
  rcases keyKind_inv hk with ⟨k, rfl, rfl⟩ | ⟨rfl, rfl⟩ | ⟨rfl, rfl⟩ | ⟨n, et, k, i, rfl, rfl, h1, h2, h3, h4, h5⟩
  · obtain ⟨k, p, rfl⟩ := isIntV_eq hv
    simp [Instr.checkKey, run_underlying' w hd]
  · cases v <;> simp [keyOk] at hv
    simp [Instr.checkKey, run_underlying' w hd]
  · cases v <;> simp [keyOk] at hv
    simp [Instr.checkKey, run_underlying' w hd]
  · cases v <;> simp only [keyOk] at hv <;> try (cases hv; done)
    rename_i a
    obtain ⟨x⟩ := a
    have e1 : ci (allInts x) (Nat.beq (lenL x) n) false = true := hv
    cases hq : allInts x with
    | false => rw [hq] at e1; cases e1
    | true =>
      rw [hq] at e1
      have hlen : x.length = n := by rw [← lenL_eq]; exact nbeq.1 e1
      have hints : ∀ (l : List Value), allInts l = true → ∀ u ∈ l, ∃ k p, u = .int k p := by
        intro l
        induction l with
        | nil => intro _ u hu; cases hu
        | cons v l ih =>
          intro e u hu
          have e1 : ci (isIntV v) (allInts l) false = true := e
          cases hv : isIntV v with
          | false => rw [hv] at e1; cases e1
          | true =>
            rw [hv] at e1
            rcases List.mem_cons.1 hu with rfl | hu
            · exact isIntV_eq hv
            · exact ih e1 u hu
      unfold Instr.checkKey
      simp only [Sem.run_bind, run_underlying' w hd, Result.andThen_ok]
      simp only [Std.Legacy.Range.forIn_eq_forIn_range', Std.Legacy.Range.size, Nat.sub_zero, Nat.add_one_sub_one, Nat.div_one]
      have loop : ∀ (is : List Nat), (∀ j ∈ is, j < n) → (forIn is PUnit.unit fun j _ => (do
          let s ← sizeOf et
          let c ← part et ⟨x⟩ (j * s)
          let _ ← Instr.checkKey em (m + 1) et c
          pure (ForInStep.yield PUnit.unit) : Sem (ForInStep PUnit))).run P w = .ok PUnit.unit w := by
        intro is
        induction is with
        | nil => intro _; simp
        | cons j is ih =>
          intro hj
          have hjn : j < x.length := by rw [hlen]; exact hj j (by simp)
          obtain ⟨kd, p, hp⟩ := hints x hq x[j] (List.getElem_mem hjn)
          have hpart : (part et ⟨x⟩ j).run P w = .ok (.int kd p) w := by
            unfold part
            simp only [Sem.run_bind, run_isAgg' w h1, isAggD, Result.andThen_ok]
            simp [hjn, hp]
          have hck : (Instr.checkKey em (m + 1) et (.int kd p)).run P w = .ok () w := by
            simp [Instr.checkKey, run_underlying' w h1]
          simp only [List.forIn_cons, Sem.run_bind, run_sizeOf' w h4, h5, Nat.mul_one, hpart, hck, Result.andThen_ok, Sem.run_pure]
          exact ih (fun q hq => hj q (List.mem_cons_of_mem _ hq))
      have := loop (List.range' 0 n) (fun j hj => by simp [List.mem_range'_1] at hj; exact hj)
      refine Eq.trans (congrArg (fun q => Result.andThen q _) this) ?_
      rfl

def hitOf (ces : List MapEntry) (i : Nat) : Option (Nat × MapEntry) → Option (Nat × Value)
  | none => none
  | some (j, _) => (ces[j - i]?).map fun c => (j, c.val)

theorem find_of [Atoms] {kt : TypeId} {d : TypeDesc} {kk : KeyKind} {v : Value} (hd0 : (AP.of P).und kt = some d) (hk : keyKindD (AP.of P) d = some kk) (hv : keyOk kk v = true) :
    ∀ (es ces : List MapEntry) (i : Nat) (q : Option (Nat × MapEntry)), ELR r es ces → findA kk v es i = some q →
    (Instr.findNow d v ces i = some (hitOf ces i q) ∨ (Instr.findNow d v ces i = none)) ∧
    (Instr.findAsking kt v ces i).run P w = .ok (hitOf ces i q) w ∧
    (∀ j e, q = some (j, e) → i ≤ j ∧ es[j - i]? = some e ∧ keyIs kk v e.key = some true)
  | [], _, i, q, hes, e => by
    cases hes
    cases e
    exact ⟨.inl rfl, by simp [Instr.findAsking, hitOf], fun _ _ h => by cases h⟩
  | en :: es, _, i, q, ⟨c, cs, rfl, he, hes⟩, e => by
    obtain ⟨b, hb, e1⟩ := ob_eq e
    obtain ⟨h1, h2⟩ := key_eq_run (P := P) (w := w) hd0 hk hv he.1 hb
    cases b with
    | true =>
      cases e1
      refine ⟨?_, ?_, ?_⟩
      · rcases h2 with h2 | ⟨n, et, rfl⟩
        · exact .inl (by simp [Instr.findNow, h2, hitOf])
        · exact .inr (by simp [Instr.findNow, Instr.sameNow])
      · simp [Instr.findAsking, h1, hitOf]
      · intro j e0 h; cases h; exact ⟨Nat.le_refl _, by simp, hb⟩
    | false =>
      obtain ⟨g1, g2, g3⟩ := find_of hd0 hk hv es cs (i + 1) q hes e1
      have shift : ∀ j, i + 1 ≤ j → (c :: cs)[j - i]? = cs[j - (i + 1)]? := by
        intro j hj
        have : j - i = (j - (i + 1)) + 1 := by omega
        rw [this]; simp
      have hq : hitOf (c :: cs) i q = hitOf cs (i + 1) q := by
        cases q with
        | none => rfl
        | some q =>
          obtain ⟨j, e0⟩ := q
          simp only [hitOf, shift j (g3 j e0 rfl).1]
      rw [hq]
      refine ⟨?_, ?_, ?_⟩
      · rcases h2 with h2 | ⟨n, et, rfl⟩
        · rcases g1 with g1 | g1
          · exact .inl (by simp only [Instr.findNow, h2]; exact g1)
          · exact .inr (by simp only [Instr.findNow, h2]; exact g1)
        · exact .inr (by simp [Instr.findNow, Instr.sameNow])
      · simp only [Instr.findAsking, Sem.run_bind, h1, Result.andThen_ok, Bool.false_eq_true, if_false]
        exact g2
      · intro j e0 h
        obtain ⟨a, b, c0⟩ := g3 j e0 h
        refine ⟨by omega, ?_, c0⟩
        have : j - i = (j - (i + 1)) + 1 := by omega
        rw [this]; simpa using b

theorem findKey_of [Atoms] {kt : TypeId} {d : TypeDesc} {kk : KeyKind} {v : Value} (hd0 : (AP.of P).und kt = some d) (hk : keyKindD (AP.of P) d = some kk) (hv : keyOk kk v = true)
    {es ces : List MapEntry} {q : Option (Nat × MapEntry)} (hes : ELR r es ces) (e : findA kk v es 0 = some q) :
    (Instr.findKey kt v ces).run P w = .ok (hitOf ces 0 q) w ∧
    (∀ j e, q = some (j, e) → es[j]? = some e ∧ keyIs kk v e.key = some true) := by
  obtain ⟨h1, h2, h3⟩ := find_of (P := P) (w := w) hd0 hk hv es ces 0 q hes e
  refine ⟨?_, fun j e h => by obtain ⟨_, b, c⟩ := h3 j e h; exact ⟨by simpa using b, c⟩⟩
  unfold Instr.findKey
  simp only [Sem.run_bind, run_underlying' w (und_spec hd0), Result.andThen_ok]
  rcases h1 with h1 | h1
  · rw [h1]; simp
  · rw [h1]; exact h2

theorem mapOf_inv {β : Type} {t : TypeId} {key : Value} {f : KeyKind → TypeId → Option β} {y : β} (e : mapOfA (AP.of P) t key f = some y) :
    ∃ kt et d kk, P.underlying t = some (.map kt et) ∧ (AP.of P).und kt = some d ∧ keyKindD (AP.of P) d = some kk ∧ keyOk kk key = true ∧ f kk et = some y := by
  obtain ⟨d, hd, e1⟩ := ob_eq e
  have hd := und_spec hd
  cases d with
  | map kt et =>
    obtain ⟨dk, h1, e2⟩ := ob_eq e1
    obtain ⟨kk, h2, e3⟩ := ob_eq e2
    obtain ⟨h3, e4⟩ := ci_then e3
    exact ⟨kt, et, dk, kk, hd, h1, h2, h3, e4⟩
  | _ => cases e1

/-- a map's block -/
theorem map_of [Atoms] (H : HR gl r h w0 w) {m : Nat} {pb : PB} {es : List MapEntry} {clock : Nat} (hr : r m = some pb) (hg : h.get m = some (.map es clock)) :
    ∃ ces, w.heap[pb.blk]? = some (.map ces clock) ∧ ELR r es ces.toList := by
  obtain ⟨o, ho, hh⟩ := H.obj m pb hr
  obtain ⟨ces, rfl, k⟩ := hh _ hg
  exact ⟨ces, ho, k⟩
theorem run_getMap {b : Nat} {ces : Array MapEntry} {clock : Nat} (hb : w.heap[b]? = some (.map ces clock)) : (getObj b).run P w = .ok (.map ces clock) w := by
  simp [getObj, Sem.run, hb]
theorem ELR_get [Atoms] : ∀ {es ces : List MapEntry} {i : Nat} {e : MapEntry}, ELR r es ces → es[i]? = some e → ∃ c, ces[i]? = some c ∧ ER r e c
  | [], _, i, e, _, h => by simp at h
  | en :: es, _, i, e, ⟨c, cs, rfl, he, hes⟩, h => by
    cases i with
    | zero => simp at h; subst h; exact ⟨c, by simp, he⟩
    | succ i => simp at h ⊢; exact ELR_get hes h
theorem ELR_length [Atoms] : ∀ {es ces : List MapEntry}, ELR r es ces → ces.length = es.length
  | [], _, h => by cases h; rfl
  | _ :: _, _, ⟨_, _, rfl, _, h⟩ => by simp [ELR_length h]

theorem lookup_of [Atoms] (H : HR gl r h w0 w) {t : TypeId} {x ix x' ix' v : Value} {ok : Bool} (hx : cv r x = some x') (hi : cv r ix = some ix') (e : lookupA (AP.of P) h t x ix ok = some v) :
    ∃ v', cv r v = some v' ∧ (Instr.lookup t x' ix' ok).run P w = .ok v' w := by
  obtain ⟨kt, et, d, kk, h1, h2, h3, h4, e1⟩ := mapOf_inv e
  have hix : ix' = ix := by have := keyOk_cv (r := r) h4; rw [hi] at this; exact Option.some.inj this
  subst hix
  have core : ∀ (es : List MapEntry) (ces : Array MapEntry), ELR r es ces.toList → lookEs (AP.of P) kk et ix' ok es = some v →
      ∃ v', cv r v = some v' ∧ (do
        Instr.checkKey ces.isEmpty 10000 kt ix'
        let (v, o) ← match ← Instr.findKey kt ix' ces.toList with
          | some (_, v) => pure (v, true)
          | none => pure (← zeroValue et, false)
        pure (if ok then .tuple #[v, .bool o] else v) : Sem Value).run P w = .ok v' w := by
    intro es ces hes e2
    obtain ⟨q, hq, e3⟩ := ob_eq e2
    obtain ⟨g1, g2⟩ := findKey_of (P := P) (w := w) h2 h3 h4 hes hq
    have hck := run_checkKey_of (P := P) (w := w) (und_spec h2) h3 h4 ces.isEmpty 9998
    have fin : ∀ {y y' : Value} {b : Bool}, cv r y = some y' → foundV ok y b = some v → cv r v = some (if ok then .tuple #[y', .bool b] else y') := by
      intro y y' b hy hf
      unfold foundV at hf
      cases ok with
      | true => cases hf; simp only [cv, cvs, hy]; rfl
      | false => cases hf; exact hy
    cases q with
    | none =>
      obtain ⟨z, hz, e4⟩ := ob_eq e3
      obtain ⟨i, hi2, hiz, hl⟩ := zero_spec hz
      obtain ⟨_, e5⟩ := ci_then e4
      refine ⟨_, fin (lit_spec hl) e5, ?_⟩
      simp only [Sem.run_bind, hck, g1, hitOf, Result.andThen_ok, run_zeroValue' w hi2 hiz, Sem.run_pure]
    | some q =>
      obtain ⟨j, en⟩ := q
      obtain ⟨g3, _⟩ := g2 j en rfl
      obtain ⟨c, hc, he⟩ := ELR_get hes g3
      refine ⟨_, fin he.2.1 e3, ?_⟩
      simp only [Sem.run_bind, hck, g1, hitOf, Nat.sub_zero, Result.andThen_ok, hc, Option.map_some, Sem.run_pure]
  unfold Instr.lookup
  simp only [Sem.run_bind, run_underlying' w h1, Result.andThen_ok]
  cases x with
  | map m =>
    cases m with
    | none =>
      have : x' = .map none := by simp [cv] at hx; exact hx.symm
      subst this
      obtain ⟨v', a, b⟩ := core [] #[] rfl e1
      refine ⟨v', a, ?_⟩
      simp only [Sem.run_bind, Result.andThen_ok, Sem.run_pure] at b ⊢
      exact b
    | some m =>
      obtain ⟨pb, rfl, hm⟩ := cv_map_eq hx
      obtain ⟨es, clock, hg, e2⟩ := onMap_eq e1
      obtain ⟨ces, hb, hes⟩ := map_of H hm hg
      obtain ⟨v', a, b⟩ := core es ces hes e2
      refine ⟨v', a, ?_⟩
      simp only [Sem.run_bind, run_getMap hb, Result.andThen_ok, Sem.run_pure] at b ⊢
      exact b
  | _ => cases e1
end
end Go.Am

namespace Go.Am
open Go Go.RowKit Forc

section
variable {gl : Nat} {r : Rho} {h : AHeap} {w0 w : World} {P : Program}

theorem i64_eq [iF : Forc] {n : Nat} {v : Value} (e : i64 n = some v) : v = .int .i64 (n : Int) := by
  unfold i64 at e; rw [fN_eq] at e; exact (Option.some.inj e).symm

theorem len_of [Atoms] [iF : Forc] (H : HR gl r h w0 w) {t ty : TypeId} {ts : List TypeId} {x x' v : Value} {xs : List Value} (hx : cv r x = some x') (e : lenOfA (AP.of P) h t x = some v) :
    cv r v = some v ∧ (Builtin.len_ ⟨t :: ts⟩ ty ⟨x' :: xs⟩).run P w = .ok v w := by
  obtain ⟨d, hd, e1⟩ := ob_eq e
  have hd := und_spec hd
  unfold Builtin.len_
  simp only [List.getElem?_toArray, List.getElem?_cons_zero, Sem.run_bind, run_underlying' w hd, Result.andThen_ok]
  cases d with
  | string =>
    cases x with
    | string s =>
      have := cv_str_eq hx; subst this
      have := i64_eq e1; subst this
      exact ⟨rfl, by simp [lenL_eq, size_strL, goInt]⟩
    | _ => cases e1
  | array n et =>
    have := i64_eq (show i64 n = some v from e1); subst this
    exact ⟨rfl, by cases x' <;> simp [goInt]⟩
  | slice et =>
    cases x with
    | slice a l c =>
      have := i64_eq (show i64 l = some v from e1); subst this
      refine ⟨rfl, ?_⟩
      cases a with
      | none => have := cv_slice_none hx; subst this; simp [goInt]
      | some a => obtain ⟨_, _, rfl⟩ := cv_slice_some hx; simp [goInt]
    | _ => cases e1
  | map kt et =>
    cases x with
    | map m =>
      cases m with
      | none =>
        have := i64_eq (show i64 0 = some v from e1); subst this
        have : x' = .map none := by simp [cv] at hx; exact hx.symm
        subst this
        exact ⟨rfl, by simp [goInt]⟩
      | some m =>
        obtain ⟨pb, rfl, hm⟩ := cv_map_eq hx
        obtain ⟨es, clock, hg, e2⟩ := onMap_eq (show onMap (h.get m) _ = some v from e1)
        have := i64_eq e2; subst this
        obtain ⟨ces, hb, hes⟩ := map_of H hm hg
        refine ⟨rfl, ?_⟩
        simp only [Sem.run_bind, run_getMap hb, Result.andThen_ok, Sem.run_pure]
        rw [lenL_eq, ← ELR_length hes]
        simp [goInt]
    | _ => cases e1
  | pointer a =>
    obtain ⟨d2, hd2, e2⟩ := ob_eq (show ob ((AP.of P).und a) _ = some v from e1)
    have hd2 := und_spec hd2
    cases d2 with
    | array n et =>
      have := i64_eq (show i64 n = some v from e2); subst this
      exact ⟨rfl, by cases x' <;> simp [goInt, run_underlying' w hd2]⟩
    | _ => cases e2
  | _ => cases e1

theorem cap_of [Atoms] [iF : Forc] {t ty : TypeId} {ts : List TypeId} {x x' v : Value} {xs : List Value} (hx : cv r x = some x') (e : capOfA (AP.of P) t x = some v) :
    cv r v = some v ∧ (Builtin.cap_ ⟨t :: ts⟩ ty ⟨x' :: xs⟩).run P w = .ok v w := by
  obtain ⟨d, hd, e1⟩ := ob_eq e
  have hd := und_spec hd
  unfold Builtin.cap_
  simp only [List.getElem?_toArray, List.getElem?_cons_zero, Sem.run_bind, run_underlying' w hd, Result.andThen_ok]
  cases d with
  | array n et =>
    have := i64_eq (show i64 n = some v from e1); subst this
    exact ⟨rfl, by cases x' <;> simp [goInt]⟩
  | slice et =>
    cases x with
    | slice a l c =>
      obtain ⟨hc, e2⟩ := ci_then (show ci (Nat.blt c capInf) (i64 c) none = some v from e1)
      have := i64_eq e2; subst this
      refine ⟨rfl, ?_⟩
      cases a with
      | none => have := cv_slice_none hx; subst this; simp [goInt]
      | some a =>
        obtain ⟨b, c', rfl, hb⟩ := cv_slice_addr (by have := nblt.1 hc; unfold capInf at this; unfold capEmp; omega) hx
        have := cv_mk_exact (l := l) hb (nblt.1 hc)
        rw [hx] at this
        injection this with this; injection this with _ _ this; subst this
        simp [goInt]
    | _ => cases e1
  | _ => cases e1

theorem min2_of [Atoms] [iF : Forc] {v u x : Value} (e : min2A v u = some x) : cv r v = some v ∧ cv r u = some u ∧ cv r x = some x ∧ (Builtin.min2 v u).run P w = .ok x w := by
  cases v <;> cases u <;> simp only [min2A] at e <;> try (cases e; done)
  rw [mkI_eq] at e
  cases e
  refine ⟨by simp [cv], by simp [cv], by simp [cv], ?_⟩
  simp only [Builtin.min2, Sem.run_pure, ltI_eq]
  rename_i k x k' y
  by_cases h : y < x
  · simp [h]
  · simp [h]
theorem max2_of [Atoms] [iF : Forc] {v u x : Value} (e : max2A v u = some x) : cv r v = some v ∧ cv r u = some u ∧ cv r x = some x ∧ (Builtin.max2 v u).run P w = .ok x w := by
  cases v <;> cases u <;> simp only [max2A] at e <;> try (cases e; done)
  rw [mkI_eq] at e
  cases e
  refine ⟨by simp [cv], by simp [cv], by simp [cv], ?_⟩
  simp only [Builtin.max2, Sem.run_pure, ltI_eq]
  rename_i k x k' y
  by_cases h : x < y
  · simp [h]
  · simp [h]

theorem fold_of [Atoms] {f : Value → Value → Option Value} {g : Value → Value → Sem Value} (hf : ∀ {v u x : Value}, f v u = some x → cv r v = some v ∧ cv r u = some u ∧ cv r x = some x ∧ ∀ w, (g v u).run P w = .ok x w) :
    ∀ (l l' : List Value) (x x' v : Value), fold2 f l x = some v → cvs r l = some l' → cv r x = some x' → (cv r v = some v ∨ l = []) ∧ (∃ v', cv r v = some v' ∧ (l'.foldlM g x').run P w = .ok v' w)
  | [], l', x, x', v, e, hl, hx => by
    cases e
    simp [cvs] at hl; subst hl
    exact ⟨.inr rfl, x', hx, by simp⟩
  | y :: l, _, x, x', v, e, hl, hx => by
    obtain ⟨y', k, rfl, hy, hk⟩ := cvs_cons hl
    obtain ⟨z, hz, e1⟩ := ob_eq e
    obtain ⟨h1, h2, h3, h4⟩ := hf hz
    rw [hx] at h1; cases h1
    rw [hy] at h2; cases h2
    obtain ⟨g1, v', g2, g3⟩ := fold_of hf l k z z v e1 hk h3
    refine ⟨.inl ?_, v', g2, by simp only [List.foldlM_cons, Sem.run_bind, h4, Result.andThen_ok]; exact g3⟩
    rcases g1 with g1 | g1
    · exact g1
    · subst g1; cases e1; exact h3

/-! ## operands -/
def EV [Atoms] (r : Rho) (tm : T Value) (gl : Nat) (ρ : Operand → Value) (l : List Operand) : Prop :=
  ∀ x u, x ∈ l → evalA tm gl x = some u → cv r u = some (ρ x)

theorem evalL_of [Atoms] {tm : T Value} {ρ : Operand → Value} : ∀ {l : List Operand} {vs : List Value}, EV r tm gl ρ l → evalL tm gl l = some vs → cvs r vs = some (l.map ρ)
  | [], _, _, e => by cases e; simp [cvs]
  | o :: l, _, h, e => by
    obtain ⟨v, hv, e1⟩ := ob_eq e
    obtain ⟨us, hu, e2⟩ := ob_eq e1
    cases e2
    exact cvs_mk_cons (h o v (by simp) hv) (evalL_of (fun x u hx => h x u (List.mem_cons_of_mem _ hx)) hu)
theorem evalO_of [Atoms] {tm : T Value} {ρ : Operand → Value} {o : Option Operand} {v : Option Value} (h : EV r tm gl ρ o.toList) (e : evalO tm gl o = some v) : cvo r v (o.map ρ) := by
  cases o with
  | none => cases e; rfl
  | some o =>
    obtain ⟨u, hu, e1⟩ := ob_eq e
    cases e1
    exact ⟨ρ o, rfl, h o u (by simp) hu⟩
theorem evalP_of [Atoms] {tm : T Value} {ρ : Operand → Value} : ∀ {l : List (Nat × Operand)} {ps : List (Nat × Value)}, EV r tm gl ρ (l.map (·.2)) → evalP tm gl l = some ps →
    (l.map fun q => (q.1, ρ q.2)).map (·.1) = ps.map (·.1) ∧ cvs r (ps.map (·.2)) = some ((l.map fun q => (q.1, ρ q.2)).map (·.2))
  | [], _, _, e => by cases e; simp [cvs]
  | q :: l, _, h, e => by
    obtain ⟨v, hv, e1⟩ := ob_eq e
    obtain ⟨us, hu, e2⟩ := ob_eq e1
    cases e2
    obtain ⟨a, b⟩ := evalP_of (fun x u hx => h x u (List.mem_cons_of_mem _ hx)) hu
    refine ⟨by simp only [List.map_cons]; rw [a], ?_⟩
    simp only [List.map_cons]
    exact cvs_mk_cons (h q.2 v (by simp) hv) b

theorem asBool_run {b : Bool} : (asBool (.bool b)).run P w = .ok b w := rfl
end
end Go.Am

namespace Go.Am
open Go Go.RowKit Forc

section
variable {gl : Nat} {r : Rho} {h : AHeap} {w0 w : World} {P : Program}

/-- **AN OPERATION THAT ONLY READS**: what the abstract machine makes of it is what the model makes of it, and the world stays. -/
theorem quiet_sound [Atoms] [iF : Forc] (H : HR gl r h w0 w) {tm : T Value} {ρ : Operand → Value} (o : Oper) (hev : EV r tm gl ρ o.op.operands.toList) {v : Value} (e : quietF o.op (AP.of P) gl tm h = some v) :
    ∃ v', cv r v = some v' ∧ (execOp ρ o).run P w = .ok (.value v') w := by
  obtain ⟨dst, op, type, pos, after, guard⟩ := o
  simp only at hev e
  have lift : ∀ {s : Sem Value} {v' : Value}, s.run P w = .ok v' w → (do pure (.value (← s)) : Sem Next).run P w = .ok (.value v') w := by
    intro s v' hs
    simp [hs]
  cases op with
  | move x => exact ⟨ρ x, hev x v (by simp [Op.operands]) e, rfl⟩
  | assign x => exact ⟨ρ x, hev x v (by simp [Op.operands]) e, rfl⟩
  | pick c a b =>
    obtain ⟨cvl, hc, e1⟩ := ob_eq e
    have hc' := hev c cvl (by simp [Op.operands]) hc
    cases cvl with
    | bool t =>
      have := cv_bool_eq hc'
      cases t with
      | true =>
        refine ⟨ρ a, hev a v (by simp [Op.operands]) e1, ?_⟩
        simp [execOp, this, asBool]
      | false =>
        refine ⟨ρ b, hev b v (by simp [Op.operands]) e1, ?_⟩
        simp [execOp, this, asBool]
    | _ => cases e1
  | build t parts =>
    obtain ⟨ps, hp, e1⟩ := ob_eq e
    obtain ⟨h1, h2⟩ := evalP_of (r := r) (ρ := ρ) (fun x u hx => hev x u (by simp [Op.operands] at hx ⊢; exact hx)) hp
    obtain ⟨v', h3, h4⟩ := build_of (P := P) (w := w) h1 h2 e1
    refine ⟨v', h3, ?_⟩
    have : (parts.map fun (i, x) => (i, ρ x)) = ⟨parts.toList.map fun q => (q.1, ρ q.2)⟩ := by
      apply Array.ext'; simp
    simp only [execOp]
    rw [this]
    exact lift h4
  | load t a =>
    obtain ⟨av, ha, e1⟩ := ob_eq e
    have ha' := hev a av (by simp [Op.operands]) ha
    cases av with
    | pointer a0 =>
      obtain ⟨a0, rfl, e2⟩ := ob_eq e1
      obtain ⟨b, hb, hca⟩ := cv_ptr_eq ha'
      obtain ⟨v', h1, h2⟩ := load_of (P := P) H hca e2
      refine ⟨v', h1, lift ?_⟩
      simp only [Instr.loadAt, hb, Instr.sureAddr, Sem.run_bind, Sem.run_pure, Result.andThen_ok, h2]
    | _ => cases e1
  | nilCheck x =>
    obtain ⟨u, hu, e1⟩ := ob_eq e
    exact nilCheck_of rfl (hev x u (by simp [Op.operands]) hu) e1
  | binOp op t x y ty =>
    obtain ⟨a, ha, e1⟩ := ob_eq e
    obtain ⟨b, hb, e2⟩ := ob_eq e1
    obtain ⟨h1, h2⟩ := bin_of (P := P) (w := w) (hev x a (by simp [Op.operands]) ha) (hev y b (by simp [Op.operands]) hb) e2
    exact ⟨v, h1, lift h2⟩
  | unOp op t x =>
    obtain ⟨a, ha, e1⟩ := ob_eq e
    obtain ⟨h1, h2⟩ := un_of (P := P) (w := w) (hev x a (by simp [Op.operands]) ha) e1
    exact ⟨v, h1, lift h2⟩
  | convert s d x =>
    obtain ⟨a, ha, e1⟩ := ob_eq e
    obtain ⟨v', h1, h2⟩ := convQ_of (P := P) H (hev x a (by simp [Op.operands]) ha) e1
    exact ⟨v', h1, lift h2⟩
  | sliceToArrayPointer arr x =>
    obtain ⟨a, ha, e1⟩ := ob_eq e
    obtain ⟨v', h1, h2⟩ := arrayAt_of (P := P) (w := w) (hev x a (by simp [Op.operands]) ha) e1
    exact ⟨v', h1, lift h2⟩
  | makeInterface t x =>
    obtain ⟨d, hd, e1⟩ := ob_eq e
    obtain ⟨hni, e2⟩ := ci_else e1
    obtain ⟨a, ha, e3⟩ := ob_eq e2
    cases e3
    refine ⟨.iface t (ρ x), by simp only [cv, hev x a (by simp [Op.operands]) ha], lift ?_⟩
    unfold Instr.makeInterface
    simp only [Sem.run_bind, run_underlying' w (und_spec hd), Result.andThen_ok]
    cases d <;> simp [isIfaceD] at hni <;> rfl
  | makeFunc fn first cap =>
    obtain ⟨hny, e0⟩ := ci_else e
    obtain ⟨a, ha, e1⟩ := ob_eq e0
    obtain ⟨b, hb, e2⟩ := ob_eq e1
    cases e2
    have h1 := evalL_of (r := r) (ρ := ρ) (fun x u hx => hev x u (by simp [Op.operands] at hx ⊢; exact .inl hx)) ha
    have h2 := evalL_of (r := r) (ρ := ρ) (fun x u hx => hev x u (by simp [Op.operands] at hx ⊢; exact .inr hx)) hb
    have hf : cfn r fn = some fn := by cases fn <;> simp [isYield] at hny <;> rfl
    refine ⟨.func fn ⟨first.toList.map ρ⟩ ⟨cap.toList.map ρ⟩, by simp only [cv, hf, h1, h2], lift ?_⟩
    have e1 : first.map ρ = ⟨first.toList.map ρ⟩ := by apply Array.ext'; simp
    have e2 : cap.map ρ = ⟨cap.toList.map ρ⟩ := by apply Array.ext'; simp
    rw [e1, e2]; rfl
  | slice t x lo hi mx =>
    obtain ⟨a, ha, e1⟩ := ob_eq e
    obtain ⟨l, hl, e2⟩ := ob_eq e1
    obtain ⟨hh, hhh, e3⟩ := ob_eq e2
    obtain ⟨m, hm, e4⟩ := ob_eq e3
    have g1 := evalO_of (r := r) (ρ := ρ) (fun x u hx => hev x u (by simp [Op.operands] at hx ⊢; simp [hx])) hl
    have g2 := evalO_of (r := r) (ρ := ρ) (fun x u hx => hev x u (by simp [Op.operands] at hx ⊢; simp [hx])) hhh
    have g3 := evalO_of (r := r) (ρ := ρ) (fun x u hx => hev x u (by simp [Op.operands] at hx ⊢; simp [hx])) hm
    obtain ⟨v', h1, h2⟩ := slice_of (P := P) H (hev x a (by simp [Op.operands]) ha) g1 g2 g3 e4
    exact ⟨v', h1, lift h2⟩
  | fieldAddr t x f =>
    obtain ⟨a, ha, e1⟩ := ob_eq e
    obtain ⟨v', h1, h2⟩ := fieldAddr_of (P := P) (w := w) (hev x a (by simp [Op.operands]) ha) e1
    exact ⟨v', h1, lift h2⟩
  | field t x f =>
    obtain ⟨a, ha, e1⟩ := ob_eq e
    obtain ⟨v', h1, h2⟩ := field_of (P := P) (w := w) (hev x a (by simp [Op.operands]) ha) e1
    exact ⟨v', h1, lift h2⟩
  | indexAddr t x i =>
    obtain ⟨a, ha, e1⟩ := ob_eq e
    obtain ⟨b, hb, e2⟩ := ob_eq e1
    obtain ⟨v', h1, h2⟩ := indexAddr_of (P := P) (w := w) (hev x a (by simp [Op.operands]) ha) (hev i b (by simp [Op.operands]) hb) e2
    exact ⟨v', h1, lift h2⟩
  | index t x i =>
    obtain ⟨a, ha, e1⟩ := ob_eq e
    obtain ⟨b, hb, e2⟩ := ob_eq e1
    obtain ⟨v', h1, h2⟩ := index_of (P := P) (w := w) (hev x a (by simp [Op.operands]) ha) (hev i b (by simp [Op.operands]) hb) e2
    exact ⟨v', h1, lift h2⟩
  | lookup t x i ok =>
    obtain ⟨a, ha, e1⟩ := ob_eq e
    obtain ⟨b, hb, e2⟩ := ob_eq e1
    obtain ⟨v', h1, h2⟩ := lookup_of (P := P) H (hev x a (by simp [Op.operands]) ha) (hev i b (by simp [Op.operands]) hb) e2
    exact ⟨v', h1, lift h2⟩
  | typeAssert x xt a ok =>
    obtain ⟨u, hu, e1⟩ := ob_eq e
    obtain ⟨v', h1, h2⟩ := typeAssert_of (P := P) (w := w) (xt := xt) (hev x u (by simp [Op.operands]) hu) e1
    exact ⟨v', h1, lift h2⟩
  | extract x i =>
    obtain ⟨u, hu, e1⟩ := ob_eq e
    have hx := hev x u (by simp [Op.operands]) hu
    cases u with
    | tuple vs =>
      have e2 : nth vs.toList i = some v := e1
      rw [nth_eq] at e2
      obtain ⟨l', hl, hcs⟩ := cv_tuple_eq hx
      obtain ⟨v', h1, h2⟩ := cvs_get hcs e2
      refine ⟨v', h1, lift ?_⟩
      simp [Instr.extract, hl, h2]
    | _ => cases e1
  | call c =>
    obtain ⟨callee, args, argTypes⟩ := c
    cases callee with
    | builtin b =>
      obtain ⟨vs, hvs, e1⟩ := ob_eq e
      have hargs := evalL_of (r := r) (ρ := ρ) (fun x u hx => hev x u (by simp [Op.operands, Call.operands] at hx ⊢; exact hx)) hvs
      have hmap : args.map ρ = ⟨args.toList.map ρ⟩ := by apply Array.ext'; simp
      have hrun : ∀ {s : Sem Value} {v' : Value} {bb : Builtin}, (∀ cs, builtin bb argTypes type cs ⟨args.toList.map ρ⟩ = (do pure (.value (← s)))) → s.run P w = .ok v' w → bb = b →
          (execOp ρ ⟨dst, .call ⟨.builtin b, args, argTypes⟩, type, pos, after, guard⟩).run P w = .ok (.value v') w := by
        intro s v' bb hb hs hbb
        subst hbb
        simp only [execOp, resolve, Sem.run_bind, Sem.run_pure, Result.andThen_ok, invoke]
        rw [hmap, hb]
        exact lift hs
      cases b <;> simp only [builtinQ] at e1 <;> try (cases e1; done)
      · -- cap
        cases hts : argTypes.toList with
        | nil => rw [hts] at e1; cases e1
        | cons t ts =>
          cases vs with
          | nil => rw [hts] at e1; cases e1
          | cons x xs =>
            rw [hts] at e1
            obtain ⟨x', xs', hx0, hx, hxs⟩ := cvs_cons hargs
            have hat : argTypes = ⟨t :: ts⟩ := by apply Array.ext'; simpa using hts
            obtain ⟨h1, h2⟩ := cap_of (P := P) (w := w) (ty := type) (ts := ts) (xs := xs') hx e1
            refine ⟨v, h1, hrun (bb := .cap) (s := Builtin.cap_ argTypes type ⟨args.toList.map ρ⟩) (fun _ => rfl) ?_ rfl⟩
            rw [hx0, hat]; exact h2
      · -- len
        cases hts : argTypes.toList with
        | nil => rw [hts] at e1; cases e1
        | cons t ts =>
          cases vs with
          | nil => rw [hts] at e1; cases e1
          | cons x xs =>
            rw [hts] at e1
            obtain ⟨x', xs', hx0, hx, hxs⟩ := cvs_cons hargs
            have hat : argTypes = ⟨t :: ts⟩ := by apply Array.ext'; simpa using hts
            obtain ⟨h1, h2⟩ := len_of (P := P) H (ty := type) (ts := ts) (xs := xs') hx e1
            refine ⟨v, h1, hrun (bb := .len) (s := Builtin.len_ argTypes type ⟨args.toList.map ρ⟩) (fun _ => rfl) ?_ rfl⟩
            rw [hx0, hat]; exact h2
      · -- max
        cases vs with
        | nil => cases e1
        | cons x xs =>
          obtain ⟨x', xs', hx0, hx, hxs⟩ := cvs_cons hargs
          obtain ⟨_, v', g1, g2⟩ := fold_of (r := r) (P := P) (w := w) (f := max2A) (g := Builtin.max2) (fun h => by
            obtain ⟨a, b, c, _⟩ := max2_of (r := r) (P := P) (w := w) h
            exact ⟨a, b, c, fun w => (max2_of (r := r) (P := P) (w := w) h).2.2.2⟩) xs xs' x x' v e1 hxs hx
          refine ⟨v', g1, hrun (bb := .max) (s := Builtin.max_ argTypes type ⟨args.toList.map ρ⟩) (fun _ => rfl) ?_ rfl⟩
          rw [hx0]; exact g2
      · -- min
        cases vs with
        | nil => cases e1
        | cons x xs =>
          obtain ⟨x', xs', hx0, hx, hxs⟩ := cvs_cons hargs
          obtain ⟨_, v', g1, g2⟩ := fold_of (r := r) (P := P) (w := w) (f := min2A) (g := Builtin.min2) (fun h => by
            obtain ⟨a, b, c, _⟩ := min2_of (r := r) (P := P) (w := w) h
            exact ⟨a, b, c, fun w => (min2_of (r := r) (P := P) (w := w) h).2.2.2⟩) xs xs' x x' v e1 hxs hx
          refine ⟨v', g1, hrun (bb := .min) (s := Builtin.min_ argTypes type ⟨args.toList.map ρ⟩) (fun _ => rfl) ?_ rfl⟩
          rw [hx0]; exact g2
    | _ => cases e
  | _ => cases e
end
end Go.Am

namespace Go.Am
open Go Go.RowKit Forc

section
variable {gl : Nat} {r : Rho} {h : AHeap} {w0 w : World} {P : Program}

theorem timesL_get (zs : List Value) (hz : 0 < zs.length) : ∀ (n i : Nat), i < n * zs.length → (timesL zs n)[i]? = zs[i % zs.length]?
  | 0, i, h => by simp at h
  | n + 1, i, h => by
    simp only [timesL]
    by_cases hi : i < zs.length
    · rw [List.getElem?_append_left hi, Nat.mod_eq_of_lt hi]
    · rw [List.getElem?_append_right (by omega), timesL_get zs hz n (i - zs.length) (by rw [Nat.add_mul] at h; omega)]
      have hmod : i % zs.length = (i - zs.length) % zs.length := Nat.mod_eq_sub_mod (by omega)
      rw [hmod]
theorem timesL_length (zs : List Value) : ∀ n, (timesL zs n).length = n * zs.length
  | 0 => by simp [timesL]
  | n + 1 => by simp [timesL, timesL_length zs n, Nat.add_mul]; omega
theorem times_range [Atoms] (zs : Array Value) (hz : 0 < zs.size) (n : Nat) : (Array.range (n * zs.size)).map (fun i => zs[i % zs.size]!) = ⟨timesL zs.toList n⟩ := by
  apply Array.ext'
  apply List.ext_getElem?
  intro i
  by_cases hi : i < n * zs.size
  · rw [timesL_get _ (by simpa using hz) n i (by simpa using hi)]
    have hm : i % zs.size < zs.size := Nat.mod_lt _ hz
    simp [hi]
    simp [hm]
  · have h1 : (timesL zs.toList n).length ≤ i := by rw [timesL_length]; simp; omega
    rw [List.getElem?_eq_none h1]
    simp; omega
theorem timesL_cvs [Atoms] {l l' : List Value} (hl : cvs r l = some l') : ∀ n, cvs r (timesL l n) = some (timesL l' n)
  | 0 => by simp [timesL, cvs]
  | n + 1 => by simp only [timesL]; exact cvs_append hl (timesL_cvs hl n)

/-- what an operation comes to, beside what the abstract machine makes of it -/
def OutR [Atoms] (P : Program) (r : Rho) (w' : World) (res : Result Next) : ANext → Prop
  | .value v => ∃ v', cv r v = some v' ∧ res = .ok (.value v') w'
  | .skip => res = .ok .skip w'
  | .enter f args => ∃ cargs, cvs r args = some cargs ∧ res = (callFunc f ⟨cargs⟩).run P w'
  | .round l args => ∃ pb cargs, r l = some pb ∧ cvs r args = some cargs ∧ res = (Instr.yield pb.blk ⟨cargs⟩).run P w'
  | .defer d => ∃ cd, DR r d cd ∧ res = .ok (.defer cd) w'
  | .recover => res = .ok .recover w'
  | .panic v => ∃ v', cv r v = some v' ∧ res = .halt (.panic v') w'

theorem newRow_val [Atoms] {cap : Nat} : cv (r.ext h.next ⟨w.heap.size, 0, cap⟩) (ptrV h.next) = some (.pointer (some ⟨w.heap.size, 0, none⟩)) :=
  cv_ptr (Rho.ext_same _ _ _) rfl

theorem rowV_of [Atoms] [iF : Forc] (H : HR gl r h w0 w) {e : TypeId} {l : List Value} {cells : Array Value} {n : ANext} {h' : AHeap} (hl : cvs r l = some cells.toList) (x : rowV h e l = some (n, h')) :
    ∃ r' w', Ext h.next r r' ∧ HR gl r' h' w0 w' ∧ OutR P r' w' ((do pure (.value (← (do pure (.pointer (some (← newRow e cells))) : Sem Value))) : Sem Next).run P w) n := by
  obtain ⟨_, x⟩ := ci_then x
  cases x
  obtain ⟨h1, h2⟩ := newRow_of H e false [] hl (fun _ => rfl)
  refine ⟨_, _, h2, h1, .pointer (some ⟨w.heap.size, 0, none⟩), newRow_val, ?_⟩
  have : cells = ⟨cells.toList⟩ := rfl
  simp only [newRow, Sem.run_bind, run_newObj, Result.andThen_ok, Sem.run_pure, World.alloc_eq, List.append_nil]

theorem exact_val [Atoms] {r : Rho} {i len : Nat} {blk cap : Nat} (hr : r i = some ⟨blk, 0, cap⟩) {c : Nat} (hc : c < capInf) : cv r (.slice (some ⟨i, 0, none⟩) len c) = some (.slice (some ⟨blk, 0, none⟩) len c) := by
  refine cv_mk_exact ?_ hc
  simp [ca, hr]

theorem buildSlice_of [Atoms] [iF : Forc] (H : HR gl r h w0 w) {t : TypeId} {len : Nat} {ps ps' : List (Nat × Value)} {v : Value} {h' : AHeap}
    (hp : ps'.map (·.1) = ps.map (·.1)) (hv : cvs r (ps.map (·.2)) = some (ps'.map (·.2))) (e : buildSliceA (AP.of P) h t len ps = some (v, h')) :
    ∃ r' w' v', Ext h.next r r' ∧ HR gl r' h' w0 w' ∧ cv r' v = some v' ∧ (Instr.buildSlice t len ⟨ps'⟩).run P w = .ok v' w' := by
  obtain ⟨et, h1, e1⟩ := ob_eq e
  obtain ⟨n, hn, e2⟩ := ob_eq e1
  obtain ⟨j, hj, rfl⟩ := size_spec hn
  obtain ⟨z, hz, e3⟩ := ob_eq e2
  obtain ⟨i, hi, hiz, hl⟩ := zero_spec hz
  obtain ⟨hc, e4⟩ := ci_then e3
  obtain ⟨cs, hcs, e5⟩ := ob_eq e4
  obtain ⟨hna, e6⟩ := ci_then e5
  cases e6
  simp only [Bool.and_eq_true, nbeq, nble, nblt, lenL_eq] at hc
  obtain ⟨⟨hc1, hc2⟩, hc3⟩ := hc
  obtain ⟨d, hd, g1⟩ := ob_eq h1
  have hd := und_spec hd
  have hds : d = .slice et := by cases d <;> simp at g1; rw [g1]
  subst hds
  have hzc : cvs r (cellsOf z) = some z.cells.toList := cv_cells (lit_spec hl)
  have hzs : z.cells.size = j.size := by rw [← Array.length_toList, cvs_length hzc]; exact hc1
  obtain ⟨out', g2, g3⟩ := fill_of ps _ _ ps' _ hcs (timesL_cvs hzc len) hp hv
  obtain ⟨k1, k2⟩ := newRow_of H et false [] g2 (fun _ => rfl)
  have hlen : len < capInf := by
    have h2 : len * j.size ≤ 65536 := hc2
    have h3 : len * 1 ≤ len * j.size := Nat.mul_le_mul_left _ hc3
    unfold capInf; omega
  refine ⟨_, _, .slice (some ⟨w.heap.size, 0, none⟩) len len, k2, k1, exact_val (Rho.ext_same _ _ _) hlen, ?_⟩
  unfold Instr.buildSlice
  have h2 : len * j.size ≤ 65536 := hc2
  have ht := times_range z.cells (by omega) len
  rw [hzs] at ht
  simp only [Sem.run_bind, run_underlying' w hd, Result.andThen_ok, run_sizeOf' w hj]
  rw [if_neg (by omega)]
  have g3' : Instr.fill (fun i => some (i * j.size, j.size)) ⟨timesL z.cells.toList len⟩ ps' = some ⟨out'⟩ := g3
  by_cases h0 : len * j.size = 0
  · have hl0 : len = 0 := by
      rcases Nat.mul_eq_zero.1 h0 with h | h
      · exact h
      · omega
    subst hl0
    rw [if_pos h0]
    simp only [Sem.run_bind, Sem.run_pure, Result.andThen_ok]
    have : (Array.map (fun x => (#[] : Array Value)[x % (#[] : Array Value).size]!) (Array.range (0 * j.size))) = ⟨timesL z.cells.toList 0⟩ := by
      simp [timesL]
    rw [this, g3']
    simp only [newRow, Sem.run_bind, run_newObj, Result.andThen_ok, Sem.run_pure, World.alloc_eq, List.append_nil]
  · rw [if_neg h0]
    simp only [Sem.run_bind, run_zeroValue' w hi hiz, Sem.run_pure, Result.andThen_ok]
    rw [hzs, ht, g3']
    simp only [newRow, Sem.run_bind, run_newObj, Result.andThen_ok, Sem.run_pure, World.alloc_eq, List.append_nil]

theorem makeSlice_of [Atoms] [iF : Forc] (H : HR gl r h w0 w) {t : TypeId} {l c l' c' v : Value} {h' : AHeap} (hl : cv r l = some l') (hc : cv r c = some c') (e : makeSliceA (AP.of P) h t l c = some (v, h')) :
    ∃ r' w' v', Ext h.next r r' ∧ HR gl r' h' w0 w' ∧ cv r' v = some v' ∧ (Instr.makeSlice t l' c').run P w = .ok v' w' := by
  obtain ⟨et, h1, e1⟩ := ob_eq e
  obtain ⟨ln, hln, e2⟩ := ob_eq e1
  obtain ⟨cn, hcn, e3⟩ := ob_eq e2
  obtain ⟨n, hn, e4⟩ := ob_eq e3
  obtain ⟨z, hz, e5⟩ := ob_eq e4
  obtain ⟨b, hb, e6⟩ := ob_eq e5
  obtain ⟨j, hj, rfl⟩ := size_spec hn
  obtain ⟨i, hi, hiz, hlit⟩ := zero_spec hz
  obtain ⟨q, hq, rfl⟩ := bytes_spec hb
  obtain ⟨hcd, e7⟩ := ci_then e6
  cases e7
  simp only [Bool.and_eq_true, nbeq, nble, nblt, lenL_eq] at hcd
  obtain ⟨⟨⟨⟨⟨hc1, hc2⟩, hc3⟩, hc4⟩, hc5⟩, hc6⟩ := hcd
  obtain ⟨k1, rfl⟩ := natOf_eq hln
  obtain ⟨k2, rfl⟩ := natOf_eq hcn
  have := cv_int_eq hl; subst this
  have := cv_int_eq hc; subst this
  obtain ⟨d, hd, g1⟩ := ob_eq h1
  have hd := und_spec hd
  have hds : d = .slice et := by cases d <;> simp at g1; rw [g1]
  subst hds
  have hzc : cvs r (cellsOf z) = some z.cells.toList := cv_cells (lit_spec hlit)
  have hzs : z.cells.size = j.size := by rw [← Array.length_toList, cvs_length hzc]; exact hc4
  obtain ⟨m1, m2⟩ := newRow_of H et false [] (timesL_cvs hzc cn) (fun _ => rfl)
  refine ⟨_, _, .slice (some ⟨w.heap.size, 0, none⟩) ln cn, m2, m1, exact_val (Rho.ext_same _ _ _) (by unfold capInf; omega), ?_⟩
  have w1 : IntKind.i64.wrap (ln : Int) = ln := wrap_i64_in _ (by omega) (by omega)
  have w2 : IntKind.i64.wrap (cn : Int) = cn := wrap_i64_in _ (by omega) (by omega)
  have hij : i = j := by rw [hi] at hj; exact Option.some.inj hj
  have hqj : q = j := by rw [hq] at hj; exact Option.some.inj hj
  subst hij; subst hqj
  unfold Instr.makeSlice
  simp only [Sem.run_bind, run_underlying' w hd, Result.andThen_ok, asInt, asIntOf, Sem.run_pure, run_typeInfo' w hj, w1, w2]
  have hb2 : (q.bytes : Int) * (cn : Int) ≤ 281474976710656 := by
    have h1 : q.bytes * cn ≤ 65536 * 1048576 := Nat.mul_le_mul hc3 hc2
    have h2 : ((q.bytes * cn : Nat) : Int) ≤ 281474976710656 := by omega
    rw [Int.natCast_mul] at h2; exact h2
  have hp48 : (2 : Int) ^ 48 = 281474976710656 := by decide
  have c1 : decide ((cn : Int) < 0) = false := decide_eq_false (by omega)
  have c2 : decide ((q.bytes : Int) * (cn : Int) > 2 ^ 48) = false := decide_eq_false (by rw [hp48]; omega)
  have c3 : decide ((ln : Int) < 0) = false := decide_eq_false (by omega)
  have c4 : decide ((ln : Int) > (cn : Int)) = false := decide_eq_false (by omega)
  simp only [c1, c2, c3, c4, Bool.or_self, Bool.false_eq_true, if_false]
  have ht := times_range z.cells (by omega) cn
  rw [hzs] at ht
  simp only [Int.toNat_natCast, Sem.run_bind, run_askRoom, Result.andThen_ok, run_sizeOf' w hj]
  by_cases h0 : cn * q.size = 0
  · have hl0 : cn = 0 := by
      rcases Nat.mul_eq_zero.1 h0 with h | h
      · exact h
      · omega
    subst hl0
    rw [if_pos h0]
    have h1 : (Array.map (fun x => (#[] : Array Value)[x % (#[] : Array Value).size]!) (Array.range (0 * q.size))) = ⟨timesL z.cells.toList 0⟩ := by
      simp [timesL]
    simp only [Sem.run_bind, Sem.run_pure, Result.andThen_ok, h1, newRow, run_newObj, World.alloc_eq, List.append_nil]
  · rw [if_neg h0]
    simp only [Sem.run_bind, run_zeroValue' w hi hiz, Sem.run_pure, Result.andThen_ok, hzs, ht, newRow, run_newObj, World.alloc_eq, List.append_nil]
end
end Go.Am

namespace Go.Am
open Go Go.RowKit Forc

section
variable {gl : Nat} {r : Rho} {h : AHeap} {w0 w : World} {P : Program}

/-- an object that is no row of cells is replaced -/
theorem setObj_of [Atoms] (H : HR gl r h w0 w) {i : Nat} {pb : PB} {a a' : AObj} {o o' : Obj} (hr : r i = some pb) (ha : h.get i = some a) (hl : a.isLive = true) (hro : a.isRo = false)
    (hb : w.heap[pb.blk]? = some o) (hno : ∀ c t f, o ≠ .cells c t f) (hor : OR r pb o' a') :
    ∃ w', (setObj pb.blk o').run P w = .ok () w' ∧ HR gl r (h.put i a') w0 w' := by
  refine ⟨{ w with heap := w.heap.setIfInBounds pb.blk o' }, ?_, ?_⟩
  · cases o <;> first | (exact absurd rfl (hno _ _ _)) | simp [setObj, Sem.run, hb]
  · have hlt : pb.blk < w.heap.size := by
      rcases Nat.lt_or_ge pb.blk w.heap.size with h | h
      · exact h
      · simp [Array.getElem?_eq_none h] at hb
    refine H.put hr ha hl hro (o' := o') ?_ ?_ ?_ rfl rfl rfl hor
    · simp [hlt]
    · intro k hk
      rw [Array.getElem?_setIfInBounds, if_neg (Ne.symm hk)]
    · simp

theorem ELR_append [Atoms] : ∀ {es ces fs cfs : List MapEntry}, ELR r es ces → ELR r fs cfs → ELR r (es ++ fs) (ces ++ cfs)
  | [], _, _, _, h, k => by cases h; simpa using k
  | _ :: _, _, _, _, ⟨c, cs, e, a, b⟩, k => by subst e; exact ⟨c, _, rfl, a, ELR_append b k⟩
theorem setNth_of [Atoms] {v v' : Value} (hv : cv r v = some v') : ∀ {es ces : List MapEntry} {i : Nat} {k : Value}, ELR r es ces → (∀ e, es[i]? = some e → cv r e.key = some k) →
    ELR r (setNth v es i) (ces.modify i fun e => { e with key := k, val := v' })
  | [], _, i, k, h, _ => by cases h; cases i <;> exact rfl
  | en :: es, _, i, k, ⟨c, cs, e, a, b⟩, hk => by
    subst e
    cases i with
    | zero => exact ⟨_, _, rfl, ⟨hk en (by simp), hv, a.2.2⟩, b⟩
    | succ i => exact ⟨_, _, rfl, a, setNth_of hv b (fun e he => hk e (by simpa using he))⟩
theorem dropNth_of [Atoms] : ∀ {es ces : List MapEntry} {i : Nat}, ELR r es ces → ELR r (dropNth es i) (ces.eraseIdx i)
  | [], _, i, h => by cases h; cases i <;> exact rfl
  | en :: es, _, i, ⟨c, cs, e, a, b⟩ => by
    subst e
    cases i with
    | zero => exact b
    | succ i => exact ⟨_, _, rfl, a, dropNth_of b⟩

theorem sameBits_ints [Atoms] : ∀ (l : List Value), allInts l = true → ∀ n, (l.zip l).all (fun q => Instr.sameBits n q.1 q.2) = true
  | [], _, n => by simp
  | v :: l, e, n => by
    have e1 : ci (isIntV v) (allInts l) false = true := e
    cases hv : isIntV v with
    | false => rw [hv] at e1; cases e1
    | true =>
      rw [hv] at e1
      obtain ⟨k, p, rfl⟩ := isIntV_eq hv
      simp only [List.zip_cons_cons, List.all_cons, sameBits_ints l e1 n, Bool.and_true]
      cases n <;> simp [Instr.sameBits]
theorem sameBits_key [Atoms] {kk : KeyKind} {v : Value} (e : keyOk kk v = true) (n : Nat) : Instr.sameBits (n + 1) v v = true := by
  cases kk with
  | int => obtain ⟨k, p, rfl⟩ := isIntV_eq e; simp [Instr.sameBits]
  | str => cases v <;> simp [keyOk] at e; simp [Instr.sameBits, beq_toListBytes]
  | bool => cases v <;> simp [keyOk] at e; simp [Instr.sameBits]
  | ints m =>
    cases v <;> simp only [keyOk] at e <;> try (cases e; done)
    rename_i a
    obtain ⟨l⟩ := a
    have e1 : ci (allInts l) (Nat.beq (lenL l) m) false = true := e
    cases hq : allInts l with
    | false => rw [hq] at e1; cases e1
    | true =>
      have := sameBits_ints l hq n
      simp only [Instr.sameBits]
      simpa using this
theorem run_keyThatStays_of [Atoms] {kk : KeyKind} {v : Value} (e : keyOk kk v = true) : (Instr.keyThatStays v v).run P w = .ok v w := by
  unfold Instr.keyThatStays
  rw [sameBits_key e 9999]
  simp

theorem mapRef_eq {β : Type} {m : Value} {f : Nat → Option β} {y : β} (e : mapRef m f = some y) : ∃ i, m = .map (some i) ∧ f i = some y := by
  cases m with
  | map q =>
    obtain ⟨i, rfl, e1⟩ := ob_eq (show ob q f = some y from e)
    exact ⟨i, rfl, e1⟩
  | _ => cases e

theorem mapUpdate_of [Atoms] (H : HR gl r h w0 w) {t : TypeId} {m k v m' k' v' : Value} {h' : AHeap} (hm : cv r m = some m') (hk : cv r k = some k') (hv : cv r v = some v')
    (e : mapUpdateA (AP.of P) h t m k v = some h') : ∃ w', HR gl r h' w0 w' ∧ (Instr.mapUpdate t m' k' v').run P w = .ok () w' := by
  obtain ⟨kt, et, d, kk, h1, h2, h3, h4, e1⟩ := mapOf_inv e
  have hkk : k' = k := by have := keyOk_cv (r := r) h4; rw [hk] at this; exact Option.some.inj this
  subst hkk
  obtain ⟨i, rfl, e2⟩ := mapRef_eq e1
  obtain ⟨pb, rfl, hp⟩ := cv_map_eq hm
  obtain ⟨es, clock, hg, e3⟩ := onMap_eq e2
  obtain ⟨ces, hb, hes⟩ := map_of H hp hg
  obtain ⟨q, hq, e4⟩ := ob_eq e3
  obtain ⟨g1, g2⟩ := findKey_of (P := P) (w := w) h2 h3 h4 hes hq
  have hck := run_checkKey_of (P := P) (w := w) (und_spec h2) h3 h4 false 9998
  unfold Instr.mapUpdate
  simp only [Sem.run_bind, run_underlying' w h1, Result.andThen_ok, run_getMap hb, hck, g1]
  cases q with
  | none =>
    cases e4
    have hor : OR r pb (.map (ces.push { key := k', val := v', born := clock }) (clock + 1)) (.map (es ++ [{ key := k', val := v, born := clock }]) (Nat.succ clock)) := by
      refine ⟨_, rfl, ?_⟩
      rw [Array.toList_push]
      exact ELR_append hes ⟨_, _, rfl, ⟨hk, hv, rfl⟩, rfl⟩
    obtain ⟨w', s1, s2⟩ := setObj_of (P := P) H hp hg rfl rfl hb (by intro _ _ _ h; cases h) hor
    exact ⟨w', s2, by simpa [hitOf] using s1⟩
  | some q =>
    obtain ⟨j, en⟩ := q
    cases e4
    obtain ⟨g3, g4⟩ := g2 j en rfl
    obtain ⟨c, hc, he⟩ := ELR_get hes g3
    have hkey : en.key = k' := (keyIs_same g4).symm
    have hck2 : c.key = k' := by
      have := he.1
      rw [hkey, hk] at this
      exact (Option.some.inj this).symm
    have hor : OR r pb (.map (ces.modify j fun e => { e with key := k', val := v' }) clock) (.map (setNth v es j) clock) := by
      refine ⟨_, rfl, ?_⟩
      rw [Array.toList_modify]
      refine setNth_of hv hes (fun e he => ?_)
      rw [g3] at he; cases he
      rw [hkey]; exact hk
    obtain ⟨w', s1, s2⟩ := setObj_of (P := P) H hp hg rfl rfl hb (by intro _ _ _ h; cases h) hor
    refine ⟨w', s2, ?_⟩
    have hc2 : ces[j]? = some c := by rw [← Array.getElem?_toList]; exact hc
    simp only [hitOf, Nat.sub_zero, hc, Option.map_some]
    simp only [hc2, Option.map_some, Option.getD_some, hck2, Sem.run_bind, run_keyThatStays_of h4, Result.andThen_ok]
    exact s1

theorem delete_of [Atoms] (H : HR gl r h w0 w) {t ty : TypeId} {ts : List TypeId} {m k m' k' : Value} {xs : List Value} {h' : AHeap} (hm : cv r m = some m') (hk : cv r k = some k')
    (e : deleteA (AP.of P) h t m k = some h') : ∃ w', HR gl r h' w0 w' ∧ (Builtin.delete_ ⟨t :: ts⟩ ty ⟨m' :: k' :: xs⟩).run P w = .ok (.tuple #[]) w' := by
  obtain ⟨kt, et, d, kk, h1, h2, h3, h4, e1⟩ := mapOf_inv e
  have hkk : k' = k := by have := keyOk_cv (r := r) h4; rw [hk] at this; exact Option.some.inj this
  subst hkk
  unfold Builtin.delete_
  simp only [List.getElem?_toArray, List.getElem?_cons_zero, List.getElem?_cons_succ, Sem.run_bind, run_underlying' w h1, Result.andThen_ok]
  cases m with
  | map q =>
    cases q with
    | none =>
      cases e1
      have : m' = .map none := by simp [cv] at hm; exact hm.symm
      subst this
      refine ⟨w, H, ?_⟩
      simp only [Sem.run_bind, run_checkKey_of (P := P) (w := w) (und_spec h2) h3 h4 true 9998, Result.andThen_ok, Sem.run_pure]
    | some i =>
      obtain ⟨pb, rfl, hp⟩ := cv_map_eq hm
      obtain ⟨es, clock, hg, e3⟩ := onMap_eq (show onMap (h.get i) _ = some h' from e1)
      obtain ⟨ces, hb, hes⟩ := map_of H hp hg
      obtain ⟨q, hq, e4⟩ := ob_eq e3
      obtain ⟨g1, g2⟩ := findKey_of (P := P) (w := w) h2 h3 h4 hes hq
      have hck := run_checkKey_of (P := P) (w := w) (und_spec h2) h3 h4 ces.isEmpty 9998
      simp only [Sem.run_bind, run_getMap hb, Result.andThen_ok, hck, g1]
      cases q with
      | none =>
        cases e4
        have hor : OR r pb (.map ces clock) (.map es clock) := ⟨_, rfl, hes⟩
        obtain ⟨w', s1, s2⟩ := setObj_of (P := P) H hp hg rfl rfl hb (by intro _ _ _ h; cases h) hor
        exact ⟨w', s2, by simp only [hitOf, Sem.run_bind, s1, Result.andThen_ok, Sem.run_pure]⟩
      | some q =>
        obtain ⟨j, en⟩ := q
        cases e4
        obtain ⟨g3, g4⟩ := g2 j en rfl
        obtain ⟨c, hc, he⟩ := ELR_get hes g3
        have hor : OR r pb (.map (ces.eraseIdxIfInBounds j) clock) (.map (dropNth es j) clock) := by
          refine ⟨_, rfl, ?_⟩
          rw [Array.toList_eraseIdxIfInBounds]
          exact dropNth_of hes
        obtain ⟨w', s1, s2⟩ := setObj_of (P := P) H hp hg rfl rfl hb (by intro _ _ _ h; cases h) hor
        exact ⟨w', s2, by simp only [hitOf, Nat.sub_zero, hc, Option.map_some, Sem.run_bind, s1, Result.andThen_ok, Sem.run_pure]⟩
  | _ => cases e1
end
end Go.Am

namespace Go.Am
open Go Go.RowKit Forc

section
variable {gl : Nat} {r : Rho} {h : AHeap} {w0 w : World} {P : Program}

/-! ## cells, written one after another -/
def setL (cs : Array Value) (i : Nat) : List Value → Array Value
  | [] => cs
  | v :: l => setL (cs.setIfInBounds i v) (i + 1) l
theorem setL_size : ∀ (l : List Value) (cs : Array Value) (i : Nat), (setL cs i l).size = cs.size
  | [], _, _ => rfl
  | v :: l, cs, i => by rw [setL, setL_size l]; simp
theorem setL_get : ∀ (l : List Value) (cs : Array Value) (i k : Nat), i + l.length ≤ cs.size → (setL cs i l)[k]? = if i ≤ k ∧ k < i + l.length then l[k - i]? else cs[k]?
  | [], cs, i, k, _ => by rw [setL, if_neg (by simp only [List.length_nil]; omega)]
  | v :: l, cs, i, k, hin => by
    simp only [List.length_cons] at hin ⊢
    rw [setL, setL_get l _ (i + 1) k (by simp; omega)]
    by_cases hk : k = i
    · subst hk
      rw [if_neg (by omega), if_pos (by omega)]
      simp [show k < cs.size by omega]
    · by_cases h2 : i + 1 ≤ k ∧ k < i + 1 + l.length
      · rw [if_pos h2, if_pos (by omega)]
        have : k - i = (k - (i + 1)) + 1 := by omega
        rw [this]; simp
      · rw [if_neg h2, if_neg (by omega), Array.getElem?_setIfInBounds, if_neg (by omega)]

structure RawOut (w w' : World) (b : Nat) (o : Obj) : Prop where
  blk : w'.heap[b]? = some o
  oth : ∀ k, k ≠ b → w'.heap[k]? = w.heap[k]?
  size : w'.heap.size = w.heap.size
  os : w'.os = w.os
  tape : w'.tape = w.tape
  out : w'.output = w.output

theorem storeRaw [Atoms] {b o : Nat} {e : TypeId} {fz : Nat × Nat} : ∀ (vs : List Value) (i : Nat) (w : World) (cs : Array Value), w.heap[b]? = some (.cells cs e fz) → o + i + vs.length ≤ cs.size →
    (fz.1 = fz.2 ∨ cs.size ≤ fz.1) → (∀ v ∈ vs, v.oneCell' = true) →
    ∃ w', (storeCells ⟨b, o, none⟩ vs i).run P w = .ok () w' ∧ RawOut w w' b (.cells (setL cs (o + i) vs) e fz)
  | [], i, w, cs, hb, _, _, _ => ⟨w, by simp [storeCells], hb, fun _ _ => rfl, rfl, rfl, rfl, rfl⟩
  | v :: vs, i, w, cs, hb, hin, hfz, hone => by
    simp only [List.length_cons] at hin
    have hlt : o + i < cs.size := by omega
    have hcell : w.cell? ⟨b, o + i, none⟩ = some cs[o + i] := by simp [World.cell?, hb, hlt]
    have hfr : w.frozen? ⟨b, o + i, none⟩ = false := by
      obtain ⟨lo, hi⟩ := fz
      simp only [World.frozen?, hb]
      rcases hfz with e1 | e1
      · simp only at e1; subst e1; simp
      · simp only at e1; simp only [Bool.and_eq_false_imp, decide_eq_true_eq]; omega
    have hstep : (store ⟨b, o + i, none⟩ v).run P w = .ok () (w.setCell ⟨b, o + i, none⟩ v) := by
      rw [run_store _ _ _ _ _ (hone v (by simp)), hcell, hfr]; simp
    have hb1 : (w.setCell ⟨b, o + i, none⟩ v).heap[b]? = some (.cells (cs.setIfInBounds (o + i) v) e fz) := by
      simp [World.setCell, Array.getElem?_modify, hb]
    obtain ⟨w', s1, R⟩ := storeRaw (b := b) (o := o) vs (i + 1) (w.setCell ⟨b, o + i, none⟩ v) (cs.setIfInBounds (o + i) v) hb1 (by simp; omega) (by simpa using hfz) (fun u hu => hone u (List.mem_cons_of_mem _ hu))
    refine ⟨w', ?_, ?_⟩
    · simp only [storeCells, Sem.run_bind, add_none]
      rw [hstep]
      simp only [Result.andThen_ok]
      exact s1
    · refine ⟨R.blk, fun k hk => ?_, ?_, R.os, R.tape, R.out⟩
      · rw [R.oth k hk]; simp [World.setCell, Array.getElem?_modify, Ne.symm hk]
      · rw [R.size]; simp [World.setCell]

theorem cvs_one [Atoms] {l l' : List Value} : ∀ (_ : cvs r l = some l') (_ : noAggs l = true), ∀ v ∈ l', v.oneCell' = true := by
  induction l generalizing l' with
  | nil => intro h _ v hv; simp [cvs] at h; subst h; cases hv
  | cons a l ih =>
    intro h hn v hv
    obtain ⟨a', k, e1, h1, h2⟩ := cvs_cons h
    subst e1
    obtain ⟨n1, n2⟩ := noAggs_cons hn
    rcases List.mem_cons.1 hv with e1 | hv
    · subst e1; exact cv_noAgg h1 n1
    · exact ih h2 n2 v hv

/-- the cells that were read are the row's -/
theorem loaded [Atoms] (b : Nat) {cs : Array Value} {e : TypeId} {fz : Nat × Nat} (o : Nat) : ∀ (m i : Nat) (acc : Array Value) (l : List Value), w.heap[b]? = some (.cells cs e fz) → o + i + m ≤ cs.size →
    (loadCellsFrom ⟨b, o, none⟩ i m acc).run P w = .ok (acc ++ ⟨l⟩) w → l.length = m ∧ ∀ k, k < m → l[k]? = cs[o + i + k]?
  | 0, i, acc, l, hb, _, e1 => by
    simp [loadCellsFrom] at e1
    subst e1; simp
  | m + 1, i, acc, l, hb, hin, e1 => by
    have hlt : o + i < cs.size := by omega
    have hcell : w.cell? ⟨b, o + i, none⟩ = some cs[o + i] := by simp [World.cell?, hb, hlt]
    simp only [loadCellsFrom, Sem.run_bind, add_none] at e1
    rw [run_load_of hcell] at e1
    simp only [Result.andThen_ok] at e1
    have hex : ∃ l2, (loadCellsFrom ⟨b, o, none⟩ (i + 1) m (acc.push cs[o + i])).run P w = .ok (acc.push cs[o + i] ++ ⟨l2⟩) w := by
      have : ∀ (m i : Nat) (acc : Array Value), o + i + m ≤ cs.size → ∃ l2, (loadCellsFrom ⟨b, o, none⟩ i m acc).run P w = .ok (acc ++ ⟨l2⟩) w := by
        intro m
        induction m with
        | zero => intro i acc _; exact ⟨[], by simp [loadCellsFrom]⟩
        | succ m ih =>
          intro i acc h2
          have hc2 : w.cell? ⟨b, o + i, none⟩ = some (cs[o + i]'(by omega)) := by simp [World.cell?, hb, show o + i < cs.size by omega]
          obtain ⟨l2, h3⟩ := ih (i + 1) (acc.push (cs[o + i]'(by omega))) (by omega)
          refine ⟨cs[o + i]'(by omega) :: l2, ?_⟩
          simp only [loadCellsFrom, Sem.run_bind, add_none]
          rw [run_load_of hc2]
          simp only [Result.andThen_ok]
          rw [h3]; simp
      exact this m (i + 1) _ (by omega)
    obtain ⟨l2, h2⟩ := hex
    rw [h2] at e1
    have e2 : acc.push cs[o + i] ++ ⟨l2⟩ = acc ++ ⟨l⟩ := by injection e1
    have e3 : l = cs[o + i] :: l2 := by
      have := congrArg Array.toList e2
      simp at this
      exact this.symm
    subst e3
    obtain ⟨g1, g2⟩ := loaded b o m (i + 1) _ l2 hb (by omega) h2
    refine ⟨by simp [g1], fun k hk => ?_⟩
    cases k with
    | zero => simp [hlt]
    | succ k => simp only [List.getElem?_cons_succ]; rw [g2 k (by omega)]; congr 1; omega

/-! ## how far a row may grow -/
theorem growBy_le (n : Nat) : ∀ (k c : Nat), c ≤ n + (n + 768) / 4 → Builtin.growBy n k c ≤ n + (n + 768) / 4
  | 0, c, h => h
  | k + 1, c, h => by
    unfold Builtin.growBy
    split
    · exact h
    · exact growBy_le n k _ (by omega)
theorem cap_le [Atoms] {need old : Nat} (h : old < need) : Builtin.nextslicecap need old ≤ 2 * need + 512 := by
  unfold Builtin.nextslicecap
  split
  · omega
  · split
    · omega
    · have := growBy_le need 4 old (by omega); omega
theorem cap_bytes [Atoms] {need old bytes : Nat} (h : old < need) (hn : need ≤ 1048576) (hb : bytes ≤ 65536) : ¬ Builtin.nextslicecap need old * bytes > 2 ^ 48 := by
  have h1 := cap_le h
  have h2 : Builtin.nextslicecap need old * bytes ≤ 2097664 * 65536 := Nat.mul_le_mul (by omega) hb
  have h3 : (2 : Nat) ^ 48 = 281474976710656 := by decide
  omega
theorem run_choose_cap {need cap : Nat} {e : TypeId} (hn : need ≤ 1048576) : ∃ c, need ≤ c ∧ c < capInf ∧ (choose (.appendCap need cap e)).run P w = .ok c w.drew := by
  refine ⟨need + w.tape w.drawn (.appendCap need cap e) % (2 ^ 63 - need), Nat.le_add_right _ _, ?_, rfl⟩
  have h3 : (2 : Nat) ^ 63 = 9223372036854775808 := by decide
  have := Nat.mod_lt (w.tape w.drawn (.appendCap need cap e)) (show 0 < 2 ^ 63 - need by omega)
  unfold capInf
  omega
end
end Go.Am

namespace Go.Am
open Go Go.RowKit Forc

section
variable {gl : Nat} {r : Rho} {h : AHeap} {w0 w : World} {P : Program}

theorem cellsOfB_eq : ∀ l : List UInt8, cellsOfB l = l.map fun b => (.int .u8 (b.toNat : Int) : Value)
  | [] => rfl
  | b :: l => by rw [cellsOfB, cellsOfB_eq l]; rfl
theorem cvs_bytes [Atoms] (r : Rho) : ∀ l : List UInt8, cvs r (cellsOfB l) = some (cellsOfB l)
  | [] => by simp [cellsOfB, cvs]
  | b :: l => cvs_mk_cons (by simp [cellOfByte, cv]) (cvs_bytes r l)

/-- what a slice or a text holds first -/
theorem first_of [Atoms] (H : HR gl r h w0 w) {size n : Nat} {x x' : Value} {l : List Value} (hx : cv r x = some x') (e : firstA h size n x = some l) :
    ∃ l', cvs r l = some l' ∧ (Builtin.firstCells size n x').run P w = .ok ⟨l'⟩ w := by
  cases x with
  | slice a len c =>
    cases a with
    | none =>
      cases e
      have := cv_slice_none hx; subst this
      exact ⟨[], by simp [cvs], rfl⟩
    | some a =>
      obtain ⟨b, c', hb⟩ := cv_slice_some hx
      subst hb
      rcases ci_some (show ci (Nat.blt c capEmp) (loadCellsA h a (Nat.mul n size)) (ci (Nat.beq n 0) (some []) none) = some l from e) with ⟨hc, e1⟩ | ⟨_, e1⟩
      · obtain ⟨b2, c2, hb2, hca⟩ := cv_slice_addr (nblt.1 hc) hx
        cases hb2
        exact loadCells_of (P := P) H hca e1
      · obtain ⟨h0, e2⟩ := ci_then e1
        cases e2
        have := nbeq.1 h0; subst this
        exact ⟨[], by simp [cvs], by simp [Builtin.firstCells, loadCells, loadCellsFrom]⟩
  | string s =>
    cases e
    have := cv_str_eq hx; subst this
    refine ⟨_, cvs_bytes r _, ?_⟩
    simp only [Builtin.firstCells, Sem.run_pure]
    congr 1
    apply Array.ext'
    rw [cellsOfB_eq]
    simp [strL, ByteArray.data_extract]
  | _ => cases e

theorem len_run [Atoms] {x x' : Value} {n : Nat} (hx : cv r x = some x') (e : lenA x = some n) : (Builtin.lenOf x').run P w = .ok n w := by
  cases x with
  | slice a l c =>
    cases e
    cases a with
    | none => have := cv_slice_none hx; subst this; rfl
    | some a => obtain ⟨b, c', hb⟩ := cv_slice_some hx; subst hb; rfl
  | string s =>
    have := cv_str_eq hx; subst this
    have : n = s.size := by rw [← size_strL, ← lenL_eq]; exact (Option.some.inj e).symm
    subst this; rfl
  | _ => cases e

theorem zeroCells_eq [Atoms] (zs : Array Value) (hz : 0 < zs.size) (n : Nat) : Builtin.zeroCells zs n = ⟨timesL zs.toList n⟩ := times_range zs hz n

theorem isIntD_eq {d : TypeDesc} (h : isIntD d = true) : ∃ k, d = .int k := by cases d <;> simp [isIntD] at h; exact ⟨_, rfl⟩

/-- the rest of an append, from the point where the number of elements is known -/
def appRest (elem : TypeId) (base : Option Addr) (s x : Value) (sLen sCap size n : Nat) (zeros : Bool) (appended : Sem (Array Value)) : Sem Value :=
  let need := sLen + n
  if need ≤ sCap then do
    let new ← appended
    if let some a := base then storeCells (a.add (sLen * size)) new.toList
    pure (.slice base need sCap)
  else do
    if (need : Int) > IntKind.i64.max ∧ (zeros ∨ (← typeInfo elem).bytes = 0) then runtimePanic (.error "growslice: len out of range")
    if Builtin.nextslicecap need sCap * (← typeInfo elem).bytes > 2 ^ 48 then (if zeros then runtimePanic (.error "growslice: len out of range") else do
      if !(← Builtin.mayShare size sLen n base x) then mark .noRoom
      unsupported (.resourceLimit "append: a slice or a string whose bytes no memory bears"))
    let newCap ← choose (.appendCap need sCap elem)
    askRoom (newCap * (← typeInfo elem).bytes)
    let old ← Builtin.firstCells size sLen s
    let new ← appended
    let rest := Builtin.zeroCells (← zeroValue elem).cells (newCap - need)
    pure (.slice (some (← newRow elem (old ++ new ++ rest))) need newCap)

theorem append_split [Atoms] {st xt ty e : TypeId} {ts : List TypeId} {xs : List Value} {base : Option Addr} {sLen sCap n : Nat} {x : Value} {j : TypeInfo} {xd : TypeDesc} {z : Value}
    (h1 : P.underlying st = some (.slice e)) (h2 : P.underlying xt = some xd) (hj : P.info? e = some j) (hz : j.zero = some z) (hz2 : 0 < z.cells.size)
    (hb : j.bytes ≤ 65536) (hn : n ≤ 1048576) (hs : 0 < j.size)
    (hint : isIntD xd = true → ∃ k, x = .int k (n : Int)) (hlen : isIntD xd = false → (Builtin.lenOf x).run P w = .ok n w) :
    ∃ app : Sem (Array Value), (Builtin.append_ ⟨st :: xt :: ts⟩ ty ⟨.slice base sLen sCap :: x :: xs⟩).run P w = (appRest e base (.slice base sLen sCap) x sLen sCap j.size n (isIntD xd) app).run P w ∧
      (isIntD xd = true → ∀ w, app.run P w = .ok ⟨timesL z.cells.toList n⟩ w) ∧ (isIntD xd = false → app = Builtin.firstCells j.size n x) := by
  refine ⟨if (!(isIntD xd)) = true then Builtin.firstCells j.size n x else if n * j.size = 0 then pure #[] else do pure (Builtin.zeroCells (← zeroValue e).cells n), ?_, ?_, ?_⟩
  · unfold Builtin.append_ appRest
    simp only [List.getElem?_toArray, List.getElem?_cons_zero, List.getElem?_cons_succ, Sem.run_bind, run_underlying' w h1, Result.andThen_ok, run_sizeOf' w hj, run_underlying' w h2, Sem.run_pure]
    cases hd : isIntD xd with
    | true =>
      obtain ⟨k, hk⟩ := isIntD_eq hd
      subst hk
      obtain ⟨k2, hx⟩ := hint hd
      subst hx
      have w1 : IntKind.i64.wrap (n : Int) = n := wrap_i64_in _ (by omega) (by omega)
      have hbn : ¬ ((n : Int) * (j.bytes : Int) > 2 ^ 48) := by
        have h1 : n * j.bytes ≤ 1048576 * 65536 := Nat.mul_le_mul hn hb
        have h2 : ((n * j.bytes : Nat) : Int) ≤ 281474976710656 := by omega
        rw [Int.natCast_mul] at h2
        have hp48 : (2 : Int) ^ 48 = 281474976710656 := by decide
        rw [hp48]; omega
      have hneg : ¬ ((n : Int) < 0) := by omega
      simp only [if_true, if_false, Bool.not_true, Bool.false_eq_true, Sem.run_bind, asInt, asIntOf, Sem.run_pure, Result.andThen_ok, w1, if_neg hneg, run_typeInfo' w hj, if_neg hbn, Int.toNat_natCast]
      try rfl
    | false =>
      cases xd with
      | int k => simp [isIntD] at hd
      | _ =>
        simp only [Bool.false_eq_true, Bool.not_false, if_true, if_false, Sem.run_bind, hlen hd, Result.andThen_ok]
        try rfl
  · intro hd w
    simp only [hd, Bool.not_true, Bool.false_eq_true, if_false]
    by_cases h0 : n * j.size = 0
    · have hn0 : n = 0 := by
        rcases Nat.mul_eq_zero.1 h0 with h | h
        · exact h
        · omega
      subst hn0
      rw [if_pos h0]; rfl
    · rw [if_neg h0]
      simp only [Sem.run_bind, run_zeroValue' w hj hz, Result.andThen_ok, Sem.run_pure, zeroCells_eq _ hz2]
  · intro hd
    simp [hd]
end
end Go.Am
