/-
  Each operation is sound; the orders that a region may draw; plans.
  Conditions: those that each theorem names.
-/
import Derived.Test.YtlfkmklgbigfaaaGreatDoorAmC
import Derived.Orders
namespace Go.Am
open Go Go.RowKit Forc

section
variable {gl : Nat} {r : Rho} {h : AHeap} {w0 w : World} {P : Program}

theorem appRest_in {e : TypeId} {a : Addr} {s x : Value} {sLen sCap size n : Nat} {zeros : Bool} {app : Sem (Array Value)} {new : List Value} {w' : World} (hn : sLen + n ≤ sCap)
    (ha : app.run P w = .ok ⟨new⟩ w) (hs : (storeCells (a.add (sLen * size)) new).run P w = .ok () w') :
    (appRest e (some a) s x sLen sCap size n zeros app).run P w = .ok (.slice (some a) (sLen + n) sCap) w' := by
  unfold appRest
  simp only [if_pos hn, Sem.run_bind, ha, Result.andThen_ok, hs, Sem.run_pure]
theorem appRest_nil {e : TypeId} {s x : Value} {sLen sCap size n : Nat} {zeros : Bool} {app : Sem (Array Value)} {new : List Value} (hn : sLen + n ≤ sCap) (ha : app.run P w = .ok ⟨new⟩ w) :
    (appRest e none s x sLen sCap size n zeros app).run P w = .ok (.slice none (sLen + n) sCap) w := by
  unfold appRest
  simp only [if_pos hn, Sem.run_bind, ha, Result.andThen_ok, Sem.run_pure]
theorem appRest_grow [Atoms] {e : TypeId} {base : Option Addr} {s x : Value} {sLen sCap size n : Nat} {zeros : Bool} {app : Sem (Array Value)} {old new : List Value} {j : TypeInfo} {z : Value}
    (hn : sCap < sLen + n) (hmax : sLen + n ≤ 1048576) (hj : P.info? e = some j) (hz : j.zero = some z) (hz2 : 0 < z.cells.size) (hb : j.bytes ≤ 65536)
    (ho : (Builtin.firstCells size sLen s).run P w.drew = .ok ⟨old⟩ w.drew) (ha : app.run P w.drew = .ok ⟨new⟩ w.drew) :
    ∃ c, sLen + n ≤ c ∧ c < capInf ∧ (appRest e base s x sLen sCap size n zeros app).run P w = .ok (.slice (some ⟨w.heap.size, 0, none⟩) (sLen + n) c) (w.drew.alloc (.cells ⟨(old ++ new) ++ timesL z.cells.toList (c - (sLen + n))⟩ e)) := by
  obtain ⟨c, h1, h2, h3⟩ := run_choose_cap (w := w) (P := P) (cap := sCap) (e := e) hmax
  refine ⟨c, h1, h2, ?_⟩
  unfold appRest
  have hmx : ¬ (((sLen + n : Nat) : Int) > IntKind.i64.max ∧ (zeros = true ∨ j.bytes = 0)) := by
    have : IntKind.i64.max = 9223372036854775807 := by decide
    rw [this]
    intro hh; have := hh.1; omega
  have hcb := cap_bytes hn hmax hb
  simp only [if_neg (show ¬ sLen + n ≤ sCap by omega), Sem.run_bind, run_typeInfo' w hj, Result.andThen_ok, if_neg hmx, if_neg hcb, h3, run_typeInfo' w.drew hj, run_askRoom, ho, ha, run_zeroValue' w.drew hj hz, Sem.run_pure,
    newRow, run_newObj, World.alloc_eq, zeroCells_eq _ hz2]
  have : ((⟨old⟩ ++ ⟨new⟩ ++ ⟨timesL z.cells.toList (c - (sLen + n))⟩ : Array Value)) = ⟨old ++ new ++ timesL z.cells.toList (c - (sLen + n))⟩ := by
    apply Array.ext'; simp
  rw [this]
  rfl

theorem rd_len {c : T Value} : ∀ {n i : Nat} {l : List Value}, rd c n i = some l → l.length = n
  | 0, _, _, e => by cases e; rfl
  | n + 1, i, _, e => by
    obtain ⟨v, hv, e1⟩ := ob_eq e
    obtain ⟨l, hl, e2⟩ := ob_eq e1
    cases e2
    simp [rd_len hl]
theorem loadCells_len [Atoms] {a : Addr} {n : Nat} {l : List Value} (e : loadCellsA h a n = some l) : l.length = n := by
  obtain ⟨_, e1⟩ := spotless_eq e
  obtain ⟨c, m, t, opn, ro, hg, e2⟩ := onCells_eq e1
  exact rd_len e2

/-- what is appended -/
theorem newOf_of [Atoms] (_H : HR gl r h w0 w) {e : TypeId} {j : TypeInfo} {xd : TypeDesc} {x x' z : Value} {n : Nat} {l : List Value} (hz : (AP.of P).zero e = some z) (hx : cv r x = some x')
    (q : newOfA (AP.of P) h e j.size xd x = some (n, l)) :
    (isIntD xd = true → (∃ k, x' = .int k (n : Int)) ∧ cvs r l = some (timesL z.cells.toList n)) ∧
    (isIntD xd = false → (Builtin.lenOf x').run P w = .ok n w ∧ firstA h j.size n x = some l) := by
  unfold newOfA at q
  rcases ci_some q with ⟨hd, q1⟩ | ⟨hd, q1⟩
  · refine ⟨fun _ => ?_, fun h => (by rw [hd] at h; cases h)⟩
    obtain ⟨m, hm, q2⟩ := ob_eq q1
    obtain ⟨z2, hz2, q3⟩ := ob_eq q2
    obtain ⟨_, q4⟩ := ci_then q3
    rw [hz] at hz2; cases hz2
    cases q4
    obtain ⟨k, hk⟩ := natOf_eq hm
    subst hk
    have := cv_int_eq hx; subst this
    obtain ⟨i, hi, hiz, hl⟩ := zero_spec hz
    exact ⟨⟨k, rfl⟩, timesL_cvs (cv_cells (lit_spec hl)) _⟩
  · refine ⟨fun h => (by rw [hd] at h; cases h), fun _ => ?_⟩
    obtain ⟨m, hm, q2⟩ := ob_eq q1
    obtain ⟨l2, hl, q3⟩ := ob_eq q2
    cases q3
    exact ⟨len_run hx hm, hl⟩

/-- a row that grew into one of its own -/
theorem grown_of [Atoms] [iF : Forc] (H : HR gl r h w0 w) {e : TypeId} {size need c : Nat} {l l' zs : List Value} {v : Value} {h' : AHeap} (hl : cvs r l = some l') (hlen : l.length = need * size) (hs : 0 < size) (hs2 : size < 256)
    (hz : zs.length = size) (hc : need ≤ c) (g : grown h e size need l = some (v, h')) :
    ∃ r', Ext h.next r r' ∧ HR gl r' h' w0 (w.drew.alloc (.cells ⟨l' ++ timesL zs (c - need)⟩ e)) ∧ cv r' v = some (.slice (some ⟨w.heap.size, 0, none⟩) need c) := by
  cases g
  obtain ⟨k1, k2⟩ := newRow_of (r := r) H.drew e true (timesL zs (c - need)) hl (by intro h; cases h)
  refine ⟨_, k2, k1, ?_⟩
  have hcap : l'.length + (timesL zs (c - need)).length = c * size := by
    rw [cvs_length hl, hlen, timesL_length, hz, ← Nat.add_mul]
    congr 1; omega
  have := cv_mk_open (r := r.ext h.next ⟨w.drew.heap.size, 0, l'.length + (timesL zs (c - need)).length⟩) (a := ⟨h.next, 0, none⟩) (l := need) hs hs2 rfl (Rho.ext_same _ _ _)
    (by simp only [Nat.zero_add]; rw [hcap]; exact Nat.mul_le_mul_right _ hc)
  rw [show Nat.add capInf size = capInf + size from rfl, this]
  simp only [Nat.zero_add, Nat.sub_zero]
  rw [hcap, Nat.mul_div_cancel _ hs]
  rfl

theorem cv_emp [Atoms] {a : Addr} {l c : Nat} {v : Value} (hc : capEmp ≤ c) (hv : cv r (.slice (some a) l c) = some v) :
    a.spot = none ∧ ∃ pb, r a.block = some pb ∧ l = 0 ∧ 0 < (c - capEmp) % 256 ∧ a.off + (c - capEmp) / 256 * ((c - capEmp) % 256) ≤ pb.cap ∧
      (v = .slice (some ⟨pb.blk, pb.off + a.off, none⟩) 0 0 ∨
        v = .slice (some ⟨pb.blk, pb.off + a.off + (c - capEmp) / 256 * ((c - capEmp) % 256), none⟩) 0 ((pb.cap - a.off) / ((c - capEmp) % 256) - (c - capEmp) / 256)) := by
  simp only [cv, cslice] at hv
  split at hv
  · cases hv
  · rename_i hs
    split at hv
    · cases hv
    · rename_i pb hp
      rw [if_neg (by unfold capEmp at hc; unfold capInf; omega), if_neg (by omega)] at hv
      split at hv
      · rename_i hh
        obtain ⟨h1, h2, h3, h4⟩ := hh
        refine ⟨hs, pb, hp, h1, h2, h4, ?_⟩
        split at hv
        · cases hv; exact .inl rfl
        · cases hv; exact .inr rfl
      · cases hv

/-- an append to an empty slice whose place hangs on its capacity -/
theorem appendE_of [Atoms] [iF : Forc] (H : HR gl r h w0 w) {e : TypeId} {a : Addr} {s' x : Value} {sLen sCap n : Nat} {zeros : Bool} {j : TypeInfo} {z : Value} {new new' : List Value} {v : Value} {h' : AHeap} {app : Sem (Array Value)} {S : Sem Value}
    (hs : cv r (.slice (some a) sLen sCap) = some s') (q : appendE h e j.size a sLen sCap (Nat.add sLen n) new = some (v, h'))
    (hc1 : sLen + n ≤ 1048576) (hj : P.info? e = some j) (hjz : j.zero = some z) (hc2 : j.bytes ≤ 65536) (hc3 : 0 < j.size) (hc4 : j.size < 256) (hzs : z.cells.size = j.size) (hc5 : noAggs new = true) (hc6 : new.length = n * j.size)
    (t1 : cvs r new = some new') (t2 : app.run P w = .ok ⟨new'⟩ w) (t3 : app.run P w.drew = .ok ⟨new'⟩ w.drew)
    (hS : ∀ b c', s' = .slice (some b) sLen c' → S.run P w = (appRest e (some b) (.slice (some b) sLen c') x sLen c' j.size n zeros app).run P w) :
    ∃ r' w' v', Ext h.next r r' ∧ HR gl r' h' w0 w' ∧ cv r' v = some v' ∧ S.run P w = .ok v' w' := by
  unfold appendE at q
  obtain ⟨hq, q1⟩ := ci_then q
  simp only [Bool.and_eq_true, nbeq, nble, nblt] at hq
  obtain ⟨⟨⟨hE, hsz⟩, h0⟩, hneed⟩ := hq
  subst h0
  have hneed : 0 < 0 + n := hneed
  have hsz : (sCap - capEmp) % 256 = j.size := hsz
  obtain ⟨c, m, t, opn, ro, hg, q2⟩ := onCells_eq q1
  obtain ⟨hor, q3⟩ := ci_then q2
  simp only [Bool.and_eq_true, nbeq, Bool.not_eq_true'] at hor
  obtain ⟨⟨ho1, ho2⟩, ho3⟩ := hor
  subst ho1; subst ho2; subst ho3
  obtain ⟨hs0, pb, hp, _, _, hfit, hcase⟩ := cv_emp hE hs
  rw [hsz] at hfit hcase
  generalize (sCap - capEmp) / 256 = L at hfit hcase
  have hK := H.kill hp
  have hz2 : 0 < z.cells.size := by omega
  have grow : ∀ (b : Addr) (c' : Nat), s' = .slice (some b) 0 c' → c' < 0 + n → ∃ r' w' v', Ext h.next r r' ∧ HR gl r' h' w0 w' ∧ cv r' v = some v' ∧ S.run P w = .ok v' w' := by
    intro b c' es hlt
    obtain ⟨c2, k1, k2, k3⟩ := appRest_grow (w := w) (s := .slice (some b) 0 c') (sLen := 0) (sCap := c') (n := n) (size := j.size) (e := t) (base := some b) (x := x) (zeros := zeros) (app := app) (old := []) (new := new') hlt hc1 hj hjz hz2 hc2 (by
      have : (Builtin.firstCells j.size 0 (.slice (some b) 0 c')).run P w.drew = .ok ⟨[]⟩ w.drew := by
        simp only [Builtin.firstCells, Nat.zero_mul]
        rfl
      exact this) t3
    obtain ⟨r', g1, g2, g3⟩ := grown_of (c := c2) hK t1 (by rw [hc6]; show n * j.size = (0 + n) * j.size; rw [Nat.zero_add]) hc3 hc4 (by rw [Array.length_toList]; exact hzs) k1 q3
    refine ⟨r', _, _, g1, g2, g3, ?_⟩
    rw [hS b c' es, k3]; rfl
  rcases hcase with es | es
  · exact grow _ _ es hneed
  · by_cases hC : 0 + n ≤ (pb.cap - a.off) / j.size - L
    · obtain ⟨ob, hob, hh⟩ := H.obj _ _ hp
      obtain ⟨cs, fz, eo, K⟩ := hh _ hg
      subst eo
      have hroom : (L + n) * j.size ≤ pb.cap - a.off := (Nat.le_div_iff_mul_le hc3).1 (by omega)
      have hsplit : (L + n) * j.size = L * j.size + n * j.size := Nat.add_mul _ _ _
      have hsize := K.size
      have hnl : new'.length = n * j.size := by rw [cvs_length t1]; exact hc6
      obtain ⟨w', u1, R⟩ := storeRaw (P := P) (b := pb.blk) (o := pb.off + a.off + L * j.size) (fz := fz) new' 0 w cs hob (by omega) (K.free rfl) (cvs_one t1 hc5)
      have hle : Ext h.next r (r.ext h.next ⟨pb.blk, pb.off + a.off + L * j.size, pb.cap - a.off - L * j.size⟩) := Ext.of H
      cases q3
      refine ⟨r.ext h.next ⟨pb.blk, pb.off + a.off + L * j.size, pb.cap - a.off - L * j.size⟩, w', .slice (some ⟨pb.blk, pb.off + a.off + L * j.size, none⟩) (0 + n) ((pb.cap - a.off) / j.size - L), hle, ?_, ?_, ?_⟩
      · refine hK.add (pb := ⟨pb.blk, pb.off + a.off + L * j.size, pb.cap - a.off - L * j.size⟩) R.blk (fun x _ hx => R.oth x hx) (by rw [R.size]; exact Nat.le_refl _) R.os R.tape R.out ?_ (show w0.heap.size ≤ pb.blk from H.hi a.block pb (AObj.cells c m t true false) hp hg rfl rfl) ?_
        · intro i p b hi hgi hlv hbe
          rw [get_put] at hgi
          by_cases ei : i = a.block
          · rw [if_pos ei] at hgi; cases hgi; cases hlv
          · rw [if_neg ei] at hgi
            exact ei (H.inj i a.block p pb _ _ hi hp hgi hg hlv rfl hbe)
        · refine ⟨_, fz, rfl, ?_⟩
          refine ⟨?_, ?_, (by intro hh; cases hh), ?_, ?_⟩
          · rw [setL_size]; show pb.off + a.off + L * j.size + (pb.cap - a.off - L * j.size) = cs.size; omega
          · show lenL new ≤ pb.cap - a.off - L * j.size
            rw [lenL_eq, hc6]; omega
          · intro i u hu
            obtain ⟨g1, u', g2, g3⟩ := ofList_cells t1 hu
            refine ⟨by rw [lenL_eq]; exact g1, u', cv_mono hle.le g2, ?_⟩
            have g1 : i < n * j.size := by rw [hc6] at g1; exact g1
            show (setL cs (pb.off + a.off + L * j.size + 0) new')[pb.off + a.off + L * j.size + i]? = some u'
            have hi2 : pb.off + a.off + L * j.size + i - (pb.off + a.off + L * j.size + 0) = i := by omega
            rw [setL_get _ _ _ _ (by omega), if_pos (by omega), ← g3, hi2]
          · intro _
            have := K.free rfl
            rw [setL_size]; exact this
      · have hfit2 : (⟨h.next, 0, none⟩ : Addr).off + (0 + n) * j.size ≤ (⟨pb.blk, pb.off + a.off + L * j.size, pb.cap - a.off - L * j.size⟩ : PB).cap := by
          show 0 + (0 + n) * j.size ≤ pb.cap - a.off - L * j.size
          rw [Nat.zero_add, Nat.zero_add]; omega
        have := cv_mk_open (r := r.ext h.next ⟨pb.blk, pb.off + a.off + L * j.size, pb.cap - a.off - L * j.size⟩) (a := ⟨h.next, 0, none⟩) hc3 hc4 rfl (Rho.ext_same _ _ _) hfit2
        have hd : (pb.cap - a.off - L * j.size) / j.size = (pb.cap - a.off) / j.size - L := by
          rw [Nat.mul_comm, Nat.sub_mul_div]
        have e3 : (.slice (some ⟨pb.blk, pb.off + a.off + L * j.size + 0, none⟩) (0 + n) ((pb.cap - a.off - L * j.size - 0) / j.size) : Value) = .slice (some ⟨pb.blk, pb.off + a.off + L * j.size, none⟩) (0 + n) ((pb.cap - a.off) / j.size - L) := by
          rw [Nat.add_zero, Nat.sub_zero, hd]
        exact this.trans (congrArg some e3)
      · rw [hS _ _ es]
        refine appRest_in hC t2 ?_
        rw [add_none, Nat.zero_mul, Nat.add_zero]; exact u1
    · exact grow _ _ es (by omega)

theorem append_of [Atoms] [iF : Forc] (H : HR gl r h w0 w) {ats : List TypeId} {args args' : List Value} {v : Value} {h' : AHeap} {ty : TypeId} (ha : cvs r args = some args') (q : appendA (AP.of P) h ats args = some (v, h')) :
    ∃ r' w' v', Ext h.next r r' ∧ HR gl r' h' w0 w' ∧ cv r' v = some v' ∧ (Builtin.append_ ⟨ats⟩ ty ⟨args'⟩).run P w = .ok v' w' := by
  unfold appendA two at q
  cases ats with
  | nil => cases q
  | cons st ats => cases ats with
    | nil => cases q
    | cons xt ats => cases args with
      | nil => cases q
      | cons s args => cases args with
        | nil => cases q
        | cons x args =>
          obtain ⟨s', a1, ea, hs, ha1⟩ := cvs_cons ha
          obtain ⟨x', a2, ea2, hx, ha2⟩ := cvs_cons ha1
          subst ea2; subst ea
          obtain ⟨e, he, q1⟩ := ob_eq (show ob (sliceE (AP.of P) st) _ = some (v, h') from q)
          obtain ⟨xd, hxd, q2⟩ := ob_eq q1
          obtain ⟨d, hd, g1⟩ := ob_eq he
          have hd := und_spec hd
          have hxd := und_spec hxd
          have hds : d = .slice e := by cases d <;> simp at g1; rw [g1]
          subst hds
          cases s with
          | slice base sLen sCap =>
            have q3 : appendV (AP.of P) h e xd base sLen sCap x = some (v, h') := q2
            unfold appendV at q3
            obtain ⟨size, hsz, q4⟩ := ob_eq q3
            obtain ⟨bytes, hby, q5⟩ := ob_eq q4
            obtain ⟨z, hz, q6⟩ := ob_eq q5
            obtain ⟨n, new, hnew, q7⟩ := op2_eq q6
            rw [fN_eq] at q7
            obtain ⟨hc, q8⟩ := ci_then q7
            obtain ⟨j, hj, ej⟩ := size_spec hsz
            obtain ⟨j2, hj2, ej2⟩ := bytes_spec hby
            obtain ⟨j3, hj3, hjz, hlit⟩ := zero_spec hz
            rw [hj] at hj2 hj3
            cases hj2; cases hj3
            subst ej; subst ej2
            simp only [Bool.and_eq_true, nbeq, nble, nblt, lenL_eq] at hc
            obtain ⟨⟨⟨⟨⟨⟨hc1, hc2⟩, hc3⟩, hc4⟩, hc5⟩, hc6⟩, hc7⟩ := hc
            have hc1 : sLen + n ≤ 1048576 := hc1
            have hc6 : new.length = n * j.size := hc6
            have hzc : cvs r (cellsOf z) = some z.cells.toList := cv_cells (lit_spec hlit)
            have hzs : z.cells.size = j.size := by rw [← Array.length_toList, cvs_length hzc]; exact hc7
            have hz2 : 0 < z.cells.size := by omega
            obtain ⟨m1, m2⟩ := newOf_of H hz hx hnew
            -- what is appended
            have happ : ∀ app : Sem (Array Value), (isIntD xd = true → ∀ w, app.run P w = .ok ⟨timesL z.cells.toList n⟩ w) → (isIntD xd = false → app = Builtin.firstCells j.size n x') →
                ∃ new', cvs r new = some new' ∧ app.run P w = .ok ⟨new'⟩ w ∧ app.run P w.drew = .ok ⟨new'⟩ w.drew := by
              intro app p1 p2
              cases hi : isIntD xd with
              | true => exact ⟨_, (m1 hi).2, p1 hi w, p1 hi w.drew⟩
              | false =>
                obtain ⟨new', n1, n2⟩ := first_of (P := P) H hx (m2 hi).2
                obtain ⟨new2, n3, n4⟩ := first_of (P := P) H.drew hx (m2 hi).2
                rw [n1] at n3; cases n3
                rw [p2 hi]
                exact ⟨new', n1, n2, n4⟩
            have split : ∀ {base' : Option Addr} {sCap' : Nat}, s' = .slice base' sLen sCap' → ∃ app new', (Builtin.append_ ⟨st :: xt :: ats⟩ ty ⟨s' :: x' :: a2⟩).run P w = (appRest e base' (.slice base' sLen sCap') x' sLen sCap' j.size n (isIntD xd) app).run P w ∧
                cvs r new = some new' ∧ app.run P w = .ok ⟨new'⟩ w ∧ app.run P w.drew = .ok ⟨new'⟩ w.drew := by
              intro base' sCap' es
              subst es
              obtain ⟨app, s1, s2, s3⟩ := append_split (w := w) (ty := ty) (ts := ats) (xs := a2) (base := base') (sLen := sLen) (sCap := sCap') (x := x') hd hxd hj hjz hz2 hc2 (by omega) hc3 (fun h => (m1 h).1) (fun h => (m2 h).1)
              obtain ⟨new', t1, t2, t3⟩ := happ app s2 s3
              exact ⟨app, new', s1, t1, t2, t3⟩
            cases base with
            | none =>
              have := cv_slice_none hs; subst this
              obtain ⟨app, new', s1, t1, t2, t3⟩ := split rfl
              obtain ⟨hc0, q9⟩ := ci_then (show ci (Nat.beq sCap 0 && Nat.beq sLen 0) (ci (Nat.beq (Nat.add sLen n) 0) (some (.slice none 0 0, h)) (grown h e j.size (Nat.add sLen n) new)) none = some (v, h') from q8)
              simp only [Bool.and_eq_true, nbeq] at hc0
              obtain ⟨h01, h02⟩ := hc0
              subst h01; subst h02
              rcases ci_some q9 with ⟨hn0, q10⟩ | ⟨hn0, q10⟩
              · cases q10
                have hn0 : 0 + n = 0 := nbeq.1 hn0
                refine ⟨r, w, .slice none 0 0, Ext.rfl, H, by simp [cv], ?_⟩
                rw [s1, appRest_nil (by omega) t2]
                congr 2
              · have hn0 : 0 + n ≠ 0 := nbeq_f.1 hn0
                obtain ⟨c, c1, c2, c3⟩ := appRest_grow (w := w) (s := .slice none 0 0) (sLen := 0) (sCap := 0) (n := n) (size := j.size) (e := e) (base := none) (x := x') (zeros := isIntD xd) (app := app) (old := []) (new := new') (by omega) hc1 hj hjz hz2 hc2 (by rfl) t3
                obtain ⟨r', k1, k2, k3⟩ := grown_of (c := c) H t1 (by rw [hc6]; show n * j.size = (0 + n) * j.size; rw [Nat.zero_add]) hc3 hc4 (by rw [Array.length_toList]; exact hzs) c1 q10
                refine ⟨r', _, _, k1, k2, k3, ?_⟩
                rw [s1, c3]; rfl
            | some a =>
              have q9 : appendS h e j.size a sLen sCap (Nat.add sLen n) new = some (v, h') := q8
              unfold appendS at q9
              rcases ci_some q9 with ⟨hcap, q10⟩ | ⟨hcap, q10⟩
              · -- the capacity is known
                have hcap := nblt.1 hcap
                obtain ⟨b, c', hb, hca⟩ := cv_slice_addr (by unfold capInf at hcap; unfold capEmp; omega) hs
                subst hb
                have : c' = sCap := by
                  have := cv_mk_exact (l := sLen) hca hcap
                  rw [hs] at this
                  injection this with this; injection this
                subst this
                obtain ⟨app, new', s1, t1, t2, t3⟩ := split rfl
                rcases ci_some q10 with ⟨hn, q11⟩ | ⟨hn, q11⟩
                · have hn : sLen + n ≤ c' := nble.1 hn
                  obtain ⟨h2, hst, q12⟩ := ob_eq q11
                  cases q12
                  rw [addA_eq] at hst
                  obtain ⟨w', u1, u2⟩ := storeCells_of (P := P) H (ca_add hca _) t1 hst
                  refine ⟨r, w', _, Ext.rfl, u2, cv_mk_exact (l := sLen + n) hca hcap, ?_⟩
                  rw [s1, appRest_in hn t2 u1]
                · have hn : c' < sLen + n := nble_f.1 hn
                  obtain ⟨old, hold, q12⟩ := ob_eq q11
                  obtain ⟨old', o1, o2⟩ := loadCells_of (P := P) H.drew hca hold
                  have hol : old.length = sLen * j.size := by
                    have := loadCells_len hold
                    exact this
                  obtain ⟨c, c1, c2, c3⟩ := appRest_grow (w := w) (s := .slice (some b) sLen c') (sLen := sLen) (sCap := c') (n := n) (size := j.size) (e := e) (base := some b) (x := x') (zeros := isIntD xd) (app := app) (old := old') (new := new') hn hc1 hj hjz hz2 hc2 o2 t3
                  obtain ⟨r', k1, k2, k3⟩ := grown_of (c := c) H (cvs_append o1 t1) (by rw [List.length_append, hol, hc6, ← Nat.add_mul]) hc3 hc4 (by rw [Array.length_toList]; exact hzs) c1 q12
                  refine ⟨r', _, _, k1, k2, k3, ?_⟩
                  rw [s1, c3]
              · -- it is not
                rcases ci_some q10 with ⟨hcn, q11⟩ | ⟨_, qE⟩
                rotate_left
                · have es : ∃ b c', s' = .slice (some b) sLen c' := by
                    have qE2 := qE
                    unfold appendE at qE2
                    obtain ⟨hq, _⟩ := ci_then qE2
                    simp only [Bool.and_eq_true, nbeq, nble, nblt] at hq
                    obtain ⟨⟨⟨hE, _⟩, h0⟩, _⟩ := hq
                    subst h0
                    obtain ⟨_, _, _, _, _, _, hh⟩ := cv_emp hE hs
                    rcases hh with hh | hh <;> exact ⟨_, _, hh⟩
                  obtain ⟨b, c', es⟩ := es
                  obtain ⟨app, new', s1, t1, t2, t3⟩ := split es
                  refine appendE_of (x := x') (zeros := isIntD xd) H hs qE hc1 hj hjz hc2 hc3 hc4 hzs hc5 hc6 t1 t2 t3 ?_
                  intro b2 c2 es2
                  rw [es] at es2
                  cases es2
                  exact s1
                have hcn : sCap = capInf + j.size := nbeq.1 hcn
                subst hcn
                obtain ⟨k, hk, q12⟩ := ob_eq q11
                obtain ⟨hs0, pb, hp, hl, es⟩ := cv_open hc3 hc4 hs
                obtain ⟨_, hkc, _⟩ := known_of H hp hk
                have hca : ca r a = some ⟨pb.blk, pb.off + a.off, none⟩ := by simp [ca, hs0, hp]
                obtain ⟨app, new', s1, t1, t2, t3⟩ := split es
                have hmul : ∀ m, m ≤ (pb.cap - a.off) / j.size ↔ m * j.size ≤ pb.cap - a.off := fun m => Nat.le_div_iff_mul_le hc3
                rcases ci_some q12 with ⟨hn, q13⟩ | ⟨hn, q13⟩
                · have hn : sLen + n ≤ k := nble.1 hn
                  obtain ⟨h2, hst, q14⟩ := ob_eq q13
                  cases q14
                  rw [addA_eq] at hst
                  obtain ⟨w', u1, u2⟩ := storeCells_of (P := P) H (ca_add hca _) t1 hst
                  have hle : a.off + (sLen + n) * j.size ≤ pb.cap := by
                    have := Nat.mul_le_mul_right j.size hn
                    omega
                  refine ⟨r, w', _, Ext.rfl, u2, cv_mk_open (l := sLen + n) hc3 hc4 hs0 hp hle, ?_⟩
                  rw [s1, appRest_in ((hmul _).2 (by omega)) t2 u1]
                · obtain ⟨old, hold, q14⟩ := ob_eq q13
                  obtain ⟨c, m, t, opn, ro, hg, q15⟩ := onCells_eq q14
                  obtain ⟨hor, q16⟩ := ci_then q15
                  simp only [Bool.and_eq_true, nbeq, Bool.not_eq_true'] at hor
                  obtain ⟨⟨ho1, ho2⟩, ho3⟩ := hor
                  subst ho1; subst ho2; subst ho3
                  have hol : old.length = sLen * j.size := loadCells_len hold
                  have hK := H.kill hp
                  by_cases hC : sLen + n ≤ (pb.cap - a.off) / j.size
                  · -- there is room
                    obtain ⟨old', o1, o2⟩ := loadCells_of (P := P) H hca hold
                    obtain ⟨ob, hob, hh⟩ := H.obj _ _ hp
                    obtain ⟨cs, fz, eo, K⟩ := hh _ hg
                    subst eo
                    have hroom : (sLen + n) * j.size ≤ pb.cap - a.off := (hmul _).1 hC
                    have hsplit : (sLen + n) * j.size = sLen * j.size + n * j.size := Nat.add_mul _ _ _
                    have hsz := K.size
                    have hnl : new'.length = n * j.size := by rw [cvs_length t1]; exact hc6
                    have hol' : old'.length = sLen * j.size := by rw [cvs_length o1]; exact hol
                    obtain ⟨w', u1, R⟩ := storeRaw (P := P) (b := pb.blk) (o := pb.off + a.off + sLen * j.size) (fz := fz) new' 0 w cs hob (by omega) (K.free rfl) (cvs_one t1 hc5)
                    have hload := loaded (P := P) (w := w) pb.blk (pb.off + a.off) (sLen * j.size) 0 #[] old' hob (by omega) (by
                      have : (loadCellsFrom ⟨pb.blk, pb.off + a.off, none⟩ 0 (sLen * j.size) #[]).run P w = .ok ⟨old'⟩ w := o2
                      rw [this]; simp)
                    have hle : Ext h.next r (r.ext h.next ⟨pb.blk, pb.off + a.off, pb.cap - a.off⟩) := Ext.of H
                    cases q16
                    refine ⟨r.ext h.next ⟨pb.blk, pb.off + a.off, pb.cap - a.off⟩, w', .slice (some ⟨pb.blk, pb.off + a.off, none⟩) (sLen + n) ((pb.cap - a.off) / j.size), hle, ?_, ?_, ?_⟩
                    · refine hK.add (pb := ⟨pb.blk, pb.off + a.off, pb.cap - a.off⟩) R.blk (fun x _ hx => R.oth x hx) (by rw [R.size]; exact Nat.le_refl _) R.os R.tape R.out ?_ (show w0.heap.size ≤ pb.blk from H.hi a.block pb (AObj.cells c m t true false) hp hg rfl rfl) ?_
                      · intro i p b hi hgi hlv hbe
                        rw [get_put] at hgi
                        by_cases ei : i = a.block
                        · rw [if_pos ei] at hgi; cases hgi; cases hlv
                        · rw [if_neg ei] at hgi
                          exact ei (H.inj i a.block p pb _ _ hi hp hgi hg hlv rfl hbe)
                      · refine ⟨_, fz, rfl, ?_⟩
                        refine ⟨?_, ?_, (by intro hh; cases hh), ?_, ?_⟩
                        · rw [setL_size]; show pb.off + a.off + (pb.cap - a.off) = cs.size; omega
                        · show lenL (old ++ new) ≤ pb.cap - a.off
                          rw [lenL_eq, List.length_append, hol, hc6]; omega
                        · intro i u hu
                          obtain ⟨g1, u', g2, g3⟩ := ofList_cells (cvs_append o1 t1) hu
                          refine ⟨by rw [lenL_eq]; exact g1, u', cv_mono hle.le g2, ?_⟩
                          have g1 : i < sLen * j.size + n * j.size := by rw [List.length_append, hol, hc6] at g1; exact g1
                          show (setL cs (pb.off + a.off + sLen * j.size + 0) new')[pb.off + a.off + i]? = some u'
                          rw [setL_get _ _ _ _ (by omega)]
                          by_cases hi : i < sLen * j.size
                          · rw [if_neg (by omega)]
                            rw [List.getElem?_append_left (by omega)] at g3
                            have := hload.2 i hi
                            rw [g3] at this
                            rw [this]; rfl
                          · rw [if_pos (by omega)]
                            rw [List.getElem?_append_right (by omega)] at g3
                            rw [← g3, hol']
                            congr 1; omega
                        · intro _
                          have := K.free rfl
                          rw [setL_size]; exact this
                    · have hfit : (⟨h.next, 0, none⟩ : Addr).off + (sLen + n) * j.size ≤ (⟨pb.blk, pb.off + a.off, pb.cap - a.off⟩ : PB).cap := by show 0 + (sLen + n) * j.size ≤ pb.cap - a.off; omega
                      exact cv_mk_open (r := r.ext h.next ⟨pb.blk, pb.off + a.off, pb.cap - a.off⟩) (a := ⟨h.next, 0, none⟩) hc3 hc4 rfl (Rho.ext_same _ _ _) hfit
                    · rw [s1]
                      refine appRest_in hC t2 ?_
                      rw [add_none]; exact u1
                  · have hn : (pb.cap - a.off) / j.size < sLen + n := by omega
                    obtain ⟨old', o1, o2⟩ := loadCells_of (P := P) H.drew hca hold
                    obtain ⟨c, c1, c2, c3⟩ := appRest_grow (w := w) (s := .slice (some ⟨pb.blk, pb.off + a.off, none⟩) sLen ((pb.cap - a.off) / j.size)) (sLen := sLen) (sCap := (pb.cap - a.off) / j.size) (n := n) (size := j.size) (e := t) (base := some ⟨pb.blk, pb.off + a.off, none⟩) (x := x') (zeros := isIntD xd) (app := app) (old := old') (new := new') hn hc1 hj hjz hz2 hc2 o2 t3
                    obtain ⟨r', k1, k2, k3⟩ := grown_of (c := c) hK (cvs_append o1 t1) (by rw [List.length_append, hol, hc6, ← Nat.add_mul]) hc3 hc4 (by rw [Array.length_toList]; exact hzs) c1 q16
                    refine ⟨r', _, _, k1, k2, k3, ?_⟩
                    rw [s1, c3]
          | _ => cases q2
end
end Go.Am

namespace Go.Am
open Go Go.RowKit Forc

section
variable {gl : Nat} {r : Rho} {h : AHeap} {w0 w : World} {P : Program}

theorem sliceE_eq {t e : TypeId} (x : sliceE (AP.of P) t = some e) : P.underlying t = some (.slice e) := by
  obtain ⟨d, hd, g1⟩ := ob_eq x
  have hd := und_spec hd
  have hds : d = .slice e := by cases d <;> simp at g1; rw [g1]
  subst hds
  exact hd

theorem copy_of [Atoms] [iF : Forc] (H : HR gl r h w0 w) {ats : List TypeId} {args args' : List Value} {v : Value} {h' : AHeap} {ty : TypeId} (ha : cvs r args = some args') (q : copyA (AP.of P) h ats args = some (v, h')) :
    ∃ w', HR gl r h' w0 w' ∧ cv r v = some v ∧ (Builtin.copy_ ⟨ats⟩ ty ⟨args'⟩).run P w = .ok v w' := by
  unfold copyA one two at q
  cases ats with
  | nil => cases q
  | cons dt ats => cases args with
    | nil => cases q
    | cons d args => cases args with
      | nil => cases q
      | cons x args =>
        obtain ⟨d', a1, ea, hd, ha1⟩ := cvs_cons ha
        obtain ⟨x', a2, ea2, hx, ha2⟩ := cvs_cons ha1
        subst ea2; subst ea
        obtain ⟨e, he, q1⟩ := ob_eq (show ob (sliceE (AP.of P) dt) _ = some (v, h') from q)
        obtain ⟨size, hsz, q2⟩ := ob_eq q1
        obtain ⟨sl, hsl, q3⟩ := ob_eq q2
        have he := sliceE_eq he
        obtain ⟨j, hj, ej⟩ := size_spec hsz
        subst ej
        cases d with
        | slice base dLen dCap =>
          have q4 : (fN (ci (Nat.ble sl dLen) sl dLen) fun n => copyV h j.size base dCap n x) = some (v, h') := q3
          rw [fN_eq] at q4
          have hmin : ci (Nat.ble sl dLen) sl dLen = Nat.min sl dLen := by
            cases hb : Nat.ble sl dLen with
            | true => rw [ci_true]; have := nble.1 hb; show sl = min sl dLen; omega
            | false => rw [ci_false]; have := nble_f.1 hb; show dLen = min sl dLen; omega
          rw [hmin] at q4
          obtain ⟨cells, hcells, q5⟩ := ob_eq q4
          obtain ⟨cells', c1, c2⟩ := first_of (P := P) H hx hcells
          have pre : ∀ {b : Option Addr} {c' : Nat}, d' = .slice b dLen c' → (Builtin.copy_ ⟨dt :: ats⟩ ty ⟨d' :: x' :: a2⟩).run P w =
              (do if let some a := b then storeCells a cells'
                  pure (goInt (Nat.min sl dLen)) : Sem Value).run P w := by
            intro b c' eb
            subst eb
            unfold Builtin.copy_
            simp only [List.getElem?_toArray, List.getElem?_cons_zero, List.getElem?_cons_succ, Sem.run_bind, run_underlying' w he, Result.andThen_ok, len_run hx hsl, run_sizeOf' w hj, c2]
            cases b <;> rfl
          cases base with
          | none =>
            have := cv_slice_none hd; subst this
            cases q5
            refine ⟨w, H, by simp [cv], ?_⟩
            rw [pre rfl]; simp [goInt]
          | some a =>
            obtain ⟨b, c', hb⟩ := cv_slice_some hd
            rcases ci_some (show ci (Nat.blt dCap capEmp) (ob (storeCellsA h a cells) fun h' => some (.int .i64 (.ofNat (Nat.min sl dLen)), h')) (ci (Nat.beq (Nat.min sl dLen) 0) (some (.int .i64 (.ofNat 0), h)) none) = some (v, h') from q5) with ⟨hc, q6⟩ | ⟨hc, q6⟩
            · obtain ⟨b2, c2', hb2, hca⟩ := cv_slice_addr (nblt.1 hc) hd
              rw [hb] at hb2
              cases hb2
              obtain ⟨h2, hst, q7⟩ := ob_eq q6
              cases q7
              obtain ⟨w', u1, u2⟩ := storeCells_of (P := P) H hca c1 hst
              refine ⟨w', u2, by simp [cv], ?_⟩
              rw [pre hb]
              simp only [Sem.run_bind, u1, Result.andThen_ok, Sem.run_pure]
              rfl
            · obtain ⟨hn, q7⟩ := ci_then q6
              cases q7
              have hn := nbeq.1 hn
              refine ⟨w, H, by simp [cv], ?_⟩
              rw [pre hb]
              have hcn : cells' = [] := by
                rw [hn] at hcells
                have hl0 : cells = [] := by
                  cases x with
                  | slice xa xl xc =>
                    cases xa with
                    | none => cases hcells; rfl
                    | some xa =>
                      rcases ci_some (show ci (Nat.blt xc capEmp) (loadCellsA h xa (Nat.mul 0 j.size)) (ci (Nat.beq 0 0) (some []) none) = some cells from hcells) with ⟨_, e1⟩ | ⟨_, e1⟩
                      · have := loadCells_len e1
                        rw [show Nat.mul 0 j.size = 0 from Nat.zero_mul _] at this
                        exact List.length_eq_zero_iff.1 this
                      · cases e1; rfl
                  | string s => cases hcells; simp [cellsOfB]
                  | _ => cases hcells
                subst hl0
                simp [cvs] at c1
                exact c1
              subst hcn
              rw [hn]
              simp [storeCells, goInt]
        | _ => cases q3

theorem clear_of [Atoms] (H : HR gl r h w0 w) {ats : List TypeId} {args args' : List Value} {v : Value} {h' : AHeap} {ty : TypeId} (ha : cvs r args = some args') (q : clearA (AP.of P) h ats args = some (v, h')) :
    ∃ w', HR gl r h' w0 w' ∧ cv r v = some v ∧ (Builtin.clear_ ⟨ats⟩ ty ⟨args'⟩).run P w = .ok v w' := by
  unfold clearA one at q
  cases ats with
  | nil => cases q
  | cons t ats => cases args with
    | nil => cases q
    | cons x args =>
      obtain ⟨x', a1, ea, hx, ha1⟩ := cvs_cons ha
      subst ea
      obtain ⟨e, he, q1⟩ := ob_eq (show ob (sliceE (AP.of P) t) _ = some (v, h') from q)
      have he := sliceE_eq he
      unfold Builtin.clear_
      simp only [List.getElem?_toArray, List.getElem?_cons_zero, Sem.run_bind, run_underlying' w he, Result.andThen_ok]
      cases x with
      | slice base len cap =>
        cases base with
        | none =>
          have := cv_slice_none hx; subst this
          cases q1
          exact ⟨w, H, by simp [cv, cvs], by simp⟩
        | some a =>
          obtain ⟨b, c', hb⟩ := cv_slice_some hx
          rcases ci_some (show ci (Nat.beq len 0) (some (.tuple #[], h)) (ob ((AP.of P).zero e) fun z => ob ((AP.of P).size e) fun n =>
            ci (Nat.blt cap capEmp && Nat.beq (lenL (cellsOf z)) n) (ob (storeCellsA h a (timesL (cellsOf z) len)) fun h' => some (.tuple #[], h')) none) = some (v, h') from q1) with ⟨h0, q2⟩ | ⟨h0, q2⟩
          · have := nbeq.1 h0; subst this
            cases q2
            subst hb
            exact ⟨w, H, by simp [cv, cvs], by simp⟩
          · have h0 := nbeq_f.1 h0
            obtain ⟨z, hz, q3⟩ := ob_eq q2
            obtain ⟨n, hn, q4⟩ := ob_eq q3
            obtain ⟨hc, q5⟩ := ci_then q4
            obtain ⟨h2, hst, q6⟩ := ob_eq q5
            cases q6
            simp only [Bool.and_eq_true, nbeq, nblt, lenL_eq] at hc
            obtain ⟨j, hj, hjz, hlit⟩ := zero_spec hz
            obtain ⟨b2, c2', hb2, hca⟩ := cv_slice_addr hc.1 hx
            rw [hb] at hb2
            cases hb2
            subst hb
            obtain ⟨w', u1, u2⟩ := storeCells_of (P := P) H hca (timesL_cvs (cv_cells (lit_spec hlit)) len) hst
            refine ⟨w', u2, by simp [cv, cvs], ?_⟩
            cases len with
            | zero => exact absurd rfl h0
            | succ m =>
              simp only [Sem.run_bind, run_zeroValue' w hj hjz, Result.andThen_ok]
              by_cases hz0 : z.cells.size = 0
              · have hzl : z.cells.toList = [] := by
                  apply List.length_eq_zero_iff.1; simpa using hz0
                have hzc : Builtin.zeroCells z.cells (m + 1) = ⟨timesL z.cells.toList (m + 1)⟩ := by
                  have : ∀ k, timesL ([] : List Value) k = [] := by
                    intro k; induction k with
                    | zero => rfl
                    | succ k ih => simp [timesL, ih]
                  rw [hzl, this]
                  simp [Builtin.zeroCells, hz0]
                rw [hzc]
                simp only [u1, Result.andThen_ok, Sem.run_pure]
              · rw [zeroCells_eq _ (by omega)]
                simp only [u1, Result.andThen_ok, Sem.run_pure]
      | _ => cases q1

/-! ## texts, as slices of bytes -/
theorem freeze_of [Atoms] (H : HR gl r h w0 w) {i : Nat} {pb : PB} {c : T Value} {n : Nat} {e : TypeId} {opn : Bool} (hr : r i = some pb) (hg : h.get i = some (.cells c n e opn false))
    (a : Addr) (ha : a.block = pb.blk) : ∃ w', (markStringish a).run P w = .ok () w' ∧ HR gl r h w0 w' := by
  obtain ⟨o, ho, hh⟩ := H.obj i pb hr
  obtain ⟨cs, fz, eo, K⟩ := hh _ hg
  subst eo
  refine ⟨w.freeze { block := a.block, off := cs.size } 1, ?_, ?_⟩
  · unfold markStringish
    have : w.shape? a.block = some (e, cs.size) := by simp [World.shape?, ha, ho]
    simp only [Sem.run_bind, run_shape, Result.andThen_ok, this, run_freeze]
  · have hput : HR gl r (h.put i (.cells c n e opn false)) w0 (w.freeze { block := a.block, off := cs.size } 1) := by
      obtain ⟨lo, hi⟩ := fz
      refine H.put hr hg rfl rfl (o' := .cells cs e (if lo == hi then (cs.size, cs.size + 1) else (min lo cs.size, max hi (cs.size + 1)))) ?_ ?_ ?_ rfl rfl rfl ?_
      · simp [World.freeze, ha, Array.getElem?_modify, ho]
      · intro k hk
        simp [World.freeze, ha, Array.getElem?_modify, Ne.symm hk]
      · simp [World.freeze]
      · refine ⟨_, _, rfl, { K with free := ?_ }⟩
        intro _
        refine .inr ?_
        have := K.free rfl
        simp only at this
        split
        · exact Nat.le_refl _
        · rename_i hne
          simp only [beq_iff_eq] at hne
          rcases this with h1 | h1
          · exact absurd h1 hne
          · simp only; omega
    refine hput.congr (fun k => ?_) rfl
    rw [get_put]
    by_cases ek : k = i
    · subst ek; simp [hg]
    · simp [ek]

theorem cv_slice_block [Atoms] {a b : Addr} {l c l' c' : Nat} (hx : cv r (.slice (some a) l c) = some (.slice (some b) l' c')) : ∃ pb, r a.block = some pb ∧ b.block = pb.blk := by
  simp only [cv, cslice] at hx
  split at hx
  · cases hx
  · split at hx
    · cases hx
    · rename_i pb hp
      refine ⟨pb, hp, ?_⟩
      repeat' split at hx
      all_goals first | (cases hx; done) | (cases hx; rfl)

theorem convW_of [Atoms] [iF : Forc] (H : HR gl r h w0 w) {src dst : TypeId} {x x' v : Value} {h' : AHeap} (hx : cv r x = some x') (q : convW (AP.of P) h src dst x = some (v, h')) :
    ∃ r' w' v', Ext h.next r r' ∧ HR gl r' h' w0 w' ∧ cv r' v = some v' ∧ (convert src dst x').run P w = .ok v' w' := by
  have quiet : ∀ {x x' : Value}, cv r x = some x' → (ob (convQ (AP.of P) h src dst x) fun v => some (v, h)) = some (v, h') →
      ∃ r' w' v', Ext h.next r r' ∧ HR gl r' h' w0 w' ∧ cv r' v = some v' ∧ (convert src dst x').run P w = .ok v' w' := by
    intro x x' hx q
    obtain ⟨u, hu, q1⟩ := ob_eq q
    cases q1
    obtain ⟨v', a, b⟩ := convQ_of (P := P) H hx hu
    exact ⟨r, w, v', Ext.rfl, H, a, b⟩
  unfold convW at q
  cases x with
  | string s =>
    have := cv_str_eq hx; subst this
    obtain ⟨sd, hsd, q1⟩ := ob_eq q
    obtain ⟨dd, hdd, q2⟩ := ob_eq q1
    have hsd := und_spec hsd
    have hdd := und_spec hdd
    cases dd with
    | slice e =>
      obtain ⟨ed, hed, q3⟩ := ob_eq q2
      have hed := und_spec hed
      obtain ⟨hu8, q4⟩ := ci_then q3
      rw [fN_eq] at q4
      obtain ⟨hn, q5⟩ := ci_then q4
      have hn := nble.1 hn
      cases q5
      have := isU8_eq hu8; subst this
      have hlen : lenL (strL s) = s.size := by rw [lenL_eq, size_strL]
      rw [hlen] at hn ⊢
      obtain ⟨c, c1, c2, c3⟩ := run_choose_cap (w := w) (P := P) (cap := 0) (e := e) hn
      obtain ⟨k1, k2⟩ := newRow_of (r := r) H.drew e true (List.replicate (c - s.size) (.int .u8 0)) (cvs_bytes r (strL s)) (by intro h; cases h)
      have hcl : (cellsOfB (strL s)).length = s.size := by rw [cellsOfB_eq, List.length_map, size_strL]
      have hg : (newRowA h e (cellsOfB (strL s)) true).get h.next = some (.cells (T.ofList (cellsOfB (strL s))) (lenL (cellsOfB (strL s))) e true false) := by
        unfold newRowA; rw [get_push]; simp
      obtain ⟨w', u1, u2⟩ := freeze_of (P := P) k1 (Rho.ext_same _ _ _) hg ⟨w.drew.heap.size, 0, none⟩ rfl
      refine ⟨_, w', .slice (some ⟨w.heap.size, 0, none⟩) s.size c, k2, u2, ?_, ?_⟩
      · have hcap : (cellsOfB (strL s)).length + (List.replicate (c - s.size) (Value.int .u8 0)).length = c := by
          rw [hcl, List.length_replicate]; omega
        have := cv_mk_open (r := r.ext h.next ⟨w.drew.heap.size, 0, (cellsOfB (strL s)).length + (List.replicate (c - s.size) (Value.int .u8 0)).length⟩) (a := ⟨h.next, 0, none⟩) (l := s.size) (e := 1) (by omega) (by omega) rfl (Rho.ext_same _ _ _)
          (by simp only [Nat.zero_add]; rw [hcap]; omega)
        rw [show Nat.add capInf 1 = capInf + 1 from rfl, this]
        simp only [Nat.zero_add, Nat.sub_zero, hcap, Nat.div_one]
        rfl
      · unfold convert
        simp only [Sem.run_bind, run_underlying' w hsd, run_underlying' w hdd, Result.andThen_ok]
        have hst : (Conv.stringToBytes e s).run P w = .ok (.slice (some ⟨w.heap.size, 0, none⟩) s.size c) w' := by
          unfold Conv.stringToBytes
          have hcells : (s.data.map (fun b => (.int .u8 (b.toNat : Int) : Value))) ++ Array.replicate (c - s.size) (.int .u8 0) = ⟨cellsOfB (strL s) ++ List.replicate (c - s.size) (.int .u8 0)⟩ := by
            apply Array.ext'
            rw [cellsOfB_eq]
            simp [strL]
          simp only [Sem.run_bind, c3, Result.andThen_ok, newRow, run_newObj, Sem.run_pure, World.alloc_eq]
          rw [hcells]
          simp only [u1, Result.andThen_ok]
          rfl
        cases sd <;> simp only [run_underlying' w hed, Result.andThen_ok, hst]
    | _ => exact quiet (by simp [cv]) q2
  | slice a l c =>
    obtain ⟨sd, hsd, q1⟩ := ob_eq q
    obtain ⟨dd, hdd, q2⟩ := ob_eq q1
    have hsd := und_spec hsd
    have hdd := und_spec hdd
    cases dd with
    | slice e =>
      obtain ⟨ed, hed, q3⟩ := ob_eq q2
      have hed := und_spec hed
      obtain ⟨a, ea, q4⟩ := ob_eq q3
      subst ea
      obtain ⟨cc, n, t, opn, ro, hg, q5⟩ := onCells_eq q4
      obtain ⟨hc, q6⟩ := ci_then q5
      cases q6
      simp only [Bool.and_eq_true, nbeq, Bool.not_eq_true'] at hc
      obtain ⟨⟨h1, h2⟩, h3⟩ := hc
      subst h2; subst h3
      have := isU8_eq h1; subst this
      obtain ⟨b, c', hb⟩ := cv_slice_some hx
      subst hb
      obtain ⟨pb, hp, hbl⟩ := cv_slice_block hx
      obtain ⟨w', u1, u2⟩ := freeze_of (P := P) H hp hg b hbl
      refine ⟨r, w', _, Ext.rfl, u2, hx, ?_⟩
      have : sd = .slice e := by rw [hsd] at hdd; exact Option.some.inj hdd
      subst this
      unfold convert
      simp only [Sem.run_bind, run_underlying' w hsd, Result.andThen_ok, BEq.rfl, run_underlying' w hed, u1, Sem.run_pure]
    | _ => exact quiet hx q2
  | _ => exact quiet hx q

/-! ## texts, rune by rune -/
theorem range_of' [Atoms] [iF : Forc] (H : HR gl r h w0 w) {xt : TypeId} {d : TypeDesc} {x x' : Value} {n : ANext} {h' : AHeap} (hx : cv r x = some x') (hd : P.underlying xt = some d) (q : rangeA h x d = some (n, h')) :
    ∃ r' w', Ext h.next r r' ∧ HR gl r' h' w0 w' ∧ OutR P r' w' ((do pure (.value (← Instr.range xt x')) : Sem Next).run P w) n := by
  cases d with
  | string =>
    cases x with
    | string s =>
      cases q
      have := cv_str_eq hx; subst this
      have hor : OR (r.ext h.next ⟨w.heap.size, 0, 0⟩) ⟨w.heap.size, 0, 0⟩ (.stringIter s 0) (.strIter (strL s) 0) := ⟨s, rfl, rfl, rfl⟩
      refine ⟨_, _, Ext.of H, H.alloc (a := .strIter (strL s) 0) (o := .stringIter s 0) 0 hor, .pointer (some ⟨w.heap.size, 0, none⟩), newRow_val, ?_⟩
      unfold Instr.range
      simp only [Sem.run_bind, run_underlying' w hd, Result.andThen_ok, Sem.run_pure, run_newObj, World.alloc_eq]
    | _ => cases q
  | map kt et =>
    cases x with
    | map m =>
      cases m with
      | none =>
        cases q
        have : x' = .map none := by simpa [cv] using hx.symm
        subst this
        have hor : OR (r.ext h.next ⟨w.heap.size, 0, 0⟩) ⟨w.heap.size, 0, 0⟩ (.mapIter none 0 #[] 0) (.mapIter none 0 [] 0) := ⟨none, rfl, rfl, rfl⟩
        refine ⟨_, _, Ext.of H, H.alloc (a := .mapIter none 0 [] 0) (o := .mapIter none 0 #[] 0) 0 hor, .pointer (some ⟨w.heap.size, 0, none⟩), newRow_val, ?_⟩
        unfold Instr.range
        simp only [Sem.run_bind, run_underlying' w hd, Result.andThen_ok, Sem.run_pure, run_newObj, World.alloc_eq]
      | some i =>
        obtain ⟨es, clock, hes, q1⟩ := onMap_eq (show onMap (h.get i) _ = some (n, h') from q)
        cases q1
        obtain ⟨qb, hq, ex⟩ : ∃ qb, r i = some qb ∧ x' = .map (some qb.blk) := by
          simp only [cv] at hx
          split at hx
          · rename_i pb hp; cases hx; exact ⟨pb, hp, rfl⟩
          · cases hx
        subst ex
        obtain ⟨om, hom, hhm⟩ := H.obj i qb hq
        obtain ⟨ces, eom, hE⟩ := hhm _ hes
        subst eom
        have hgetm : (getObj qb.blk).run P w = .ok (.map ces clock) w := by simp [getObj, Sem.run, hom]
        have hle : Ext h.next r (r.ext h.next ⟨w.heap.size, 0, 0⟩) := Ext.of H
        have hor : OR (r.ext h.next ⟨w.heap.size, 0, 0⟩) ⟨w.heap.size, 0, 0⟩ (.mapIter (some qb.blk) clock #[] clock) (.mapIter (some i) clock [] clock) := ⟨some qb.blk, rfl, rfl, qb, hle.le _ _ hq, rfl⟩
        refine ⟨_, _, hle, H.alloc (a := .mapIter (some i) clock [] clock) (o := .mapIter (some qb.blk) clock #[] clock) 0 hor, .pointer (some ⟨w.heap.size, 0, none⟩), newRow_val, ?_⟩
        unfold Instr.range
        simp only [Sem.run_bind, run_underlying' w hd, Result.andThen_ok, Sem.run_pure, run_newObj, World.alloc_eq, hgetm]
    | _ => cases q
  | _ => cases q
end
end Go.Am

namespace Go.Am
open Go Go.RowKit Forc

section
variable {gl : Nat} {r : Rho} {h : AHeap} {w0 w : World} {P : Program}

theorem iterOf_eq [Atoms] {β : Type} {v : Value} {f : Nat → Option β} {y : β} (e : iterOf v f = some y) : ∃ b, v = .pointer (some ⟨b, 0, none⟩) ∧ f b = some y := by
  cases v with
  | pointer a =>
    obtain ⟨a, ea, e1⟩ := ob_eq (show ob a _ = some y from e)
    subst ea
    obtain ⟨hs, e2⟩ := spotless_eq e1
    obtain ⟨h0, e3⟩ := ci_then e2
    obtain ⟨b, o, s⟩ := a
    have := nbeq.1 h0
    simp only at this hs
    subst this; subst hs
    exact ⟨b, rfl, e3⟩
  | _ => cases e

theorem memN_iff [Atoms] {i : Nat} : ∀ {l : List Nat}, memN i l = true ↔ i ∈ l
  | [] => by simp [memN]
  | j :: l => by
    unfold memN
    cases hb : Nat.beq i j with
    | true => have := nbeq.1 hb; subst this; simp
    | false => have := nbeq_f.1 hb; simp only [ci_false]; rw [memN_iff]; simp [this]


theorem leftOf_eq [Atoms] {seen : List Nat} : ∀ {es : List MapEntry}, leftOf seen es = es.filter fun e => !(⟨seen.reverse⟩ : Array Nat).contains e.born
  | [] => rfl
  | e :: l => by
    unfold leftOf
    have hc : (⟨seen.reverse⟩ : Array Nat).contains e.born = memN e.born seen := by
      rw [Bool.eq_iff_iff, memN_iff]
      simp
    rw [List.filter_cons, hc]
    cases memN e.born seen with
    | true => simp only [ci_true, Bool.not_true, Bool.false_eq_true, if_false]; exact leftOf_eq
    | false => simp only [ci_false, Bool.not_false, if_true]; rw [leftOf_eq]
theorem bornBelow_spec [Atoms] {n : Nat} : ∀ {es : List MapEntry}, bornBelow n es = true → ∀ e ∈ es, e.born < n
  | [], _, _, h => by cases h
  | e :: l, h, f, hf => by
    simp only [bornBelow, Bool.and_eq_true, nblt] at h
    rcases List.mem_cons.1 hf with e1 | hf
    · subst e1; exact h.1
    · exact bornBelow_spec h.2 f hf
theorem ELR_born [Atoms] {r : Rho} {n : Nat} : ∀ {es ces : List MapEntry}, ELR r es ces → (∀ e ∈ es, e.born < n) → ∀ e ∈ ces, e.born < n
  | [], _, h, _, e, he => by cases h; cases he
  | x :: es, _, ⟨c, cs, e1, h1, h2⟩, hb, e, he => by
    subst e1
    rcases List.mem_cons.1 he with e2 | he
    · subst e2; rw [h1.2.2]; exact hb x (by simp)
    · exact ELR_born h2 (fun y hy => hb y (List.mem_cons_of_mem _ hy)) e he
theorem ELR_left [Atoms] {r : Rho} {p : Nat → Bool} : ∀ {es ces : List MapEntry}, ELR r es ces → ELR r (es.filter fun e => p e.born) (ces.filter fun e => p e.born)
  | [], _, h => by cases h; rfl
  | x :: es, _, ⟨c, cs, e1, h1, h2⟩ => by
    subst e1
    rw [List.filter_cons, List.filter_cons, h1.2.2]
    cases p x.born with
    | true => exact ⟨c, _, rfl, h1, ELR_left h2⟩
    | false => exact ELR_left h2
theorem run_next1 {w : World} : (choose (.mapNext 1)).run P w = .ok 0 w ∨ (choose (.mapNext 1)).run P w = .ok 0 w.drew := by
  simp [choose, Sem.run, Question.forced]

theorem nextM_of [Atoms] (H : HR gl r h w0 w) {b : Nat} {pb : PB} {m : Option Nat} {since last : Nat} {seen : List Nat} {ty : TypeId} {n : ANext} {h' : AHeap} (hp : r b = some pb) (hb : h.get b = some (.mapIter m since seen last)) (q : nextM h b since seen last m = some (n, h')) :
    ∃ w', HR gl r h' w0 w' ∧ OutR P r w' ((do pure (.value (← Instr.next (.pointer (some ⟨pb.blk, pb.off + 0, none⟩)) false ty)) : Sem Next).run P w) n := by
  obtain ⟨ob, hob, hh⟩ := H.obj b pb hp
  obtain ⟨cm, eo, hoff, hm⟩ := hh _ hb
  subst eo
  have hget : (getObj pb.blk).run P w = .ok (.mapIter cm since ⟨seen.reverse⟩ last) w := by simp [getObj, Sem.run, hob]
  unfold Instr.next
  rw [hoff]
  simp only [Nat.add_zero, Sem.run_bind, hget, Result.andThen_ok]
  cases m with
  | none =>
    simp only at hm
    subst hm
    cases q
    refine ⟨w, H, .tuple #[.bool false], by simp [cv, cvs], ?_⟩
    simp only [Sem.run_pure, Result.andThen_ok]
  | some i =>
    obtain ⟨qb, hq, ecm⟩ := hm
    subst ecm
    obtain ⟨es, clock, hes, q1⟩ := onMap_eq (show onMap (h.get i) _ = some (n, h') from q)
    obtain ⟨hc, q2⟩ := ci_then q1
    simp only [Bool.and_eq_true, nbeq, nble] at hc
    obtain ⟨⟨hc1, hc2⟩, hc3⟩ := hc
    subst hc1
    obtain ⟨om, hom, hhm⟩ := H.obj i qb hq
    obtain ⟨ces, eom, hE⟩ := hhm _ hes
    subst eom
    have hgetm : (getObj qb.blk).run P w = .ok (.map ces clock) w := by simp [getObj, Sem.run, hom]
    have hborn := ELR_born hE (bornBelow_spec hc3)
    simp only [hgetm, Sem.run_bind, Result.andThen_ok]
    have hno : (!(⟨seen.reverse⟩ : Array Nat).isEmpty && !ces.isEmpty && ces.all (fun e => decide (e.born ≥ last))) = false := by
      cases he : ces.isEmpty with
      | true => simp
      | false =>
        have hne : 0 < ces.size := by
          rcases Nat.eq_zero_or_pos ces.size with h0 | h0
          · have : ces = #[] := Array.eq_empty_of_size_eq_zero h0
            subst this; simp at he
          · exact h0
        have : ces.all (fun e => decide (e.born ≥ last)) = false := by
          rw [Array.all_eq_false]
          refine ⟨0, hne, ?_⟩
          have := hborn ces[0] (by simp)
          simp; omega
        rw [this]; simp
    rw [hno]
    simp only [Bool.false_eq_true, if_false]
    rw [leftOf_eq] at q2
    have hL := ELR_left (p := fun b => !(⟨seen.reverse⟩ : Array Nat).contains b) hE
    have hold : ∀ (l : List MapEntry), (∀ e ∈ l, e.born < clock) → (Array.filter (fun e => decide (e.born < clock)) ⟨l⟩) = ⟨l⟩ ∧ (Array.filter (fun e => decide (e.born ≥ clock)) ⟨l⟩) = #[] := by
      intro l hl
      constructor
      · apply Array.ext'
        simp only [Array.toList_filter]
        rw [List.filter_eq_self.2]
        intro a ha
        simpa using hl a ha
      · apply Array.ext'
        simp only [Array.toList_filter]
        rw [List.filter_eq_nil_iff.2]
        intro a ha
        have := hl a ha
        simp; omega
    have hleft : (ces.filter fun e => !(⟨seen.reverse⟩ : Array Nat).contains e.born) = ⟨ces.toList.filter fun e => !(⟨seen.reverse⟩ : Array Nat).contains e.born⟩ := by
      apply Array.ext'; simp
    rw [hleft]
    have hb2 : ∀ e ∈ (ces.toList.filter fun e => !(⟨seen.reverse⟩ : Array Nat).contains e.born), e.born < clock := fun e he => hborn e (List.mem_filter.1 he).1
    obtain ⟨f1, f2⟩ := hold _ hb2
    rw [f1, f2]
    generalize (es.filter fun e => !(⟨seen.reverse⟩ : Array Nat).contains e.born) = L at q2 hL
    generalize (ces.toList.filter fun e => !(⟨seen.reverse⟩ : Array Nat).contains e.born) = cL at hL
    cases L with
    | nil =>
      have : cL = [] := hL
      subst this
      cases q2
      have hsz : ((if ((⟨[]⟩ : Array MapEntry)).isEmpty then #[none] else #[]) ++ ((⟨[]⟩ : Array MapEntry) ++ #[]).map some : Array (Option MapEntry)) = #[none] := by simp
      rw [hsz]
      have h1 : (#[none] : Array (Option MapEntry)).size = 1 := rfl
      rw [h1]
      have hg0 : (#[none] : Array (Option MapEntry))[0]? = some none := rfl
      rcases run_next1 (P := P) (w := w) with hr | hr
      · refine ⟨w, H, .tuple #[.bool false], by simp [cv, cvs], ?_⟩
        simp only [Sem.run_bind, hr, Result.andThen_ok, hg0, Sem.run_pure]
      · refine ⟨w.drew, H.drew, .tuple #[.bool false], by simp [cv, cvs], ?_⟩
        simp only [Sem.run_bind, hr, Result.andThen_ok, hg0, Sem.run_pure]
    | cons e L => cases L with
      | cons _ _ => cases q2
      | nil =>
        obtain ⟨c, cs, ecl, hER, hnil⟩ := hL
        have : cs = [] := hnil
        subst this; subst ecl
        cases q2
        have hsz : ((if ((⟨[c]⟩ : Array MapEntry)).isEmpty then #[none] else #[]) ++ ((⟨[c]⟩ : Array MapEntry) ++ #[]).map some : Array (Option MapEntry)) = #[some c] := by simp
        rw [hsz]
        have h1 : (#[some c] : Array (Option MapEntry)).size = 1 := rfl
        rw [h1]
        have hor : OR r pb (.mapIter (some qb.blk) clock ⟨(e.born :: seen).reverse⟩ clock) (.mapIter (some i) clock (e.born :: seen) clock) := ⟨some qb.blk, rfl, hoff, qb, hq, rfl⟩
        have hpush : ((⟨seen.reverse⟩ : Array Nat).push c.born) = ⟨(e.born :: seen).reverse⟩ := by
          apply Array.ext'; simp [hER.2.2]
        have key : ∃ w1, HR gl r h w0 w1 ∧ w1.heap = w.heap ∧ (choose (.mapNext 1)).run P w = .ok 0 w1 := by
          rcases run_next1 (P := P) (w := w) with hr | hr
          · exact ⟨w, H, rfl, hr⟩
          · exact ⟨w.drew, H.drew, rfl, hr⟩
        obtain ⟨w1, H1, hw1, hr⟩ := key
        obtain ⟨w', u1, u2⟩ := setObj_of (P := P) H1 hp hb rfl rfl (by rw [hw1]; exact hob) (by intro _ _ _ hh; cases hh) hor
        have hg0 : (#[some c] : Array (Option MapEntry))[0]? = some (some c) := rfl
        refine ⟨w', u2, .tuple #[.bool true, c.key, c.val], by simp [cv, cvs, hER.1, hER.2.1], ?_⟩
        simp only [Sem.run_bind, hr, Result.andThen_ok, hg0, hpush, u1, Sem.run_pure]

theorem findB_of [Atoms] {r : Rho} {b : Nat} : ∀ {es ces : List MapEntry} {e : MapEntry}, ELR r es ces → findB b es = some e → ∃ c, ces.find? (fun x => x.born == b) = some c ∧ ER r e c
  | [], _, _, _, h => by cases h
  | x :: es, _, e, ⟨c, cs, e1, h1, h2⟩, h => by
    subst e1
    rcases ci_some (show ci (Nat.beq x.born b) (some x) (findB b es) = some e from h) with ⟨g1, g2⟩ | ⟨g1, g2⟩
    · cases g2
      have : (c.born == b) = true := by rw [h1.2.2]; simpa using nbeq.1 g1
      exact ⟨c, by rw [List.find?_cons, this], h1⟩
    · have : (c.born == b) = false := by rw [h1.2.2]; simpa using nbeq_f.1 g1
      obtain ⟨d, k1, k2⟩ := findB_of h2 g2
      exact ⟨d, by rw [List.find?_cons, this]; exact k1, k2⟩

theorem entry_of [Atoms] (H : HR gl r h w0 w) {it it' : Value} {n : ANext} {h' : AHeap} (hx : cv r it = some it') (q : iterOf it (fun b => entryA h b) = some (n, h')) :
    HR gl r h' w0 w ∧ OutR P r w ((do pure (.value (← Instr.entry it')) : Sem Next).run P w) n := by
  obtain ⟨b, eb, q1⟩ := iterOf_eq q
  subst eb
  obtain ⟨o, ho, q3⟩ := ob_eq q1
  cases o with
  | mapIter m since seen last =>
    obtain ⟨i, ei, q4⟩ := ob_eq (show ob m (fun m => entryB h m last seen) = some (n, h') from q3)
    subst ei
    cases seen with
    | nil => cases q4
    | cons s seen =>
      obtain ⟨es, clock, hes, q5⟩ := onMap_eq (show onMap (h.get i) _ = some (n, h') from q4)
      obtain ⟨hc, q6⟩ := ci_then q5
      have hc := nbeq.1 hc
      subst hc
      obtain ⟨e, he, q7⟩ := ob_eq q6
      cases q7
      obtain ⟨a, ea, hca⟩ := cv_ptr_eq hx
      subst ea
      obtain ⟨_, pb, hp, ea⟩ := ca_eq hca
      subst ea
      simp only at hp
      obtain ⟨ob, hob, hh⟩ := H.obj b pb hp
      obtain ⟨cm, eo, hoff, qb, hq, ecm⟩ := hh _ ho
      subst eo; subst ecm
      obtain ⟨om, hom, hhm⟩ := H.obj i qb hq
      obtain ⟨ces, eom, hE⟩ := hhm _ hes
      subst eom
      obtain ⟨c, k1, k2⟩ := findB_of hE he
      have hget : (getObj pb.blk).run P w = .ok (.mapIter (some qb.blk) since ⟨(s :: seen).reverse⟩ clock) w := by simp [getObj, Sem.run, hob]
      have hgetm : (getObj qb.blk).run P w = .ok (.map ces clock) w := by simp [getObj, Sem.run, hom]
      have hback : (⟨(s :: seen).reverse⟩ : Array Nat).back? = some s := by simp
      refine ⟨H, .tuple #[c.key, c.val], by simp [cv, cvs, k2.1, k2.2.1], ?_⟩
      unfold Instr.entry
      rw [hoff]
      simp only [Nat.add_zero, Sem.run_bind, hget, Result.andThen_ok, hback, hgetm]
      have hne : (clock != clock) = false := by simp
      rw [hne, ← Array.find?_toList, k1]
      simp only [Bool.false_eq_true, if_false, Sem.run_pure, Result.andThen_ok]
  | _ => cases q3

theorem nextS_of [Atoms] [iF : Forc] (H : HR gl r h w0 w) {it it' : Value} {ty : TypeId} {st : Bool} {n : ANext} {h' : AHeap} (hx : cv r it = some it') (q : iterOf it (fun b => nextA st h b) = some (n, h')) :
    ∃ w', HR gl r h' w0 w' ∧ OutR P r w' ((do pure (.value (← Instr.next it' st ty)) : Sem Next).run P w) n := by
  obtain ⟨b, eb, q1⟩ := iterOf_eq q
  subst eb
  obtain ⟨o, ho, q3⟩ := ob_eq q1
  cases o with
  | mapIter m since seen last =>
    obtain ⟨hst, q4⟩ := ci_else (show ci st none (nextM h b since seen last m) = some (n, h') from q3)
    subst hst
    obtain ⟨a, ea, hca⟩ := cv_ptr_eq hx
    subst ea
    obtain ⟨_, pb, hp, ea⟩ := ca_eq hca
    subst ea
    exact nextM_of H hp ho q4
  | strIter s pos =>
    obtain ⟨hst, q4⟩ := ci_then (show ci st (stepS h b pos s) none = some (n, h') from q3)
    subst hst
    obtain ⟨a, ea, hca⟩ := cv_ptr_eq hx
    subst ea
    obtain ⟨_, pb, hp, ea⟩ := ca_eq hca
    subst ea
    simp only at hp
    obtain ⟨ob, hob, hh⟩ := H.obj b pb hp
    obtain ⟨full, eo, hdrop, hoff⟩ := hh _ ho
    subst eo
    have hget : (getObj pb.blk).run P w = .ok (.stringIter full pos) w := by simp [getObj, Sem.run, hob]
    unfold Instr.next
    rw [hoff]
    simp only [Nat.add_zero, Sem.run_bind, hget, Result.andThen_ok]
    cases s with
    | nil =>
      cases q4
      have hge : ¬ pos < full.size := by
        have := congrArg List.length hdrop
        rw [List.length_drop] at this
        have h2 : full.data.toList.length = full.size := size_strL full
        rw [h2] at this
        simp at this; omega
      refine ⟨w, H, .tuple #[.bool false], by simp [cv, cvs], ?_⟩
      simp only [if_neg hge, Sem.run_pure, Result.andThen_ok]
    | cons c l =>
      obtain ⟨hc, q5⟩ := ci_then q4
      have hc := nblt.1 hc
      rw [fN_eq, fN_eq] at q5
      cases q5
      have hlt : pos < full.size := by
        have := congrArg List.length hdrop
        rw [List.length_drop] at this
        have h2 : full.data.toList.length = full.size := size_strL full
        rw [h2] at this
        simp at this; omega
      have hgetc : full.data.toList[pos]? = some c := by
        have : (full.data.toList.drop pos)[0]? = some c := by rw [hdrop]; rfl
        simpa using this
      have hbyte : full.get! pos = c := by
        have h2 : full.data[pos]? = some c := by rw [← Array.getElem?_toList]; exact hgetc
        show full.data[pos]! = c
        rw [Array.getElem!_eq_getD, Array.getD_eq_getD_getElem?, h2]; rfl
      have hdec : Utf8.decode full pos = (c.toNat, 1) := by
        unfold Utf8.decode
        simp only [Nat.add_zero, hbyte]
        rw [if_pos hc]
      have hor : OR r pb (.stringIter full (pos + 1)) (.strIter l (Nat.succ pos)) := by
        refine ⟨full, rfl, ?_, hoff⟩
        have : full.data.toList.drop (pos + 1) = (full.data.toList.drop pos).drop 1 := by rw [List.drop_drop]
        rw [this, hdrop]; rfl
      obtain ⟨w', u1, u2⟩ := setObj_of (P := P) H hp ho rfl rfl hob (by intro _ _ _ hh; cases hh) hor
      refine ⟨w', u2, .tuple #[.bool true, goInt pos, .int .i32 c.toNat], by simp [cv, cvs, goInt], ?_⟩
      simp only [if_pos hlt, hdec, Sem.run_bind, u1, Result.andThen_ok, Sem.run_pure]
  | _ => cases q3

theorem lift_run {s : Sem Value} {v' : Value} {w' : World} (hs : s.run P w = .ok v' w') : (do pure (.value (← s)) : Sem Next).run P w = .ok (.value v') w' := by
  simp [hs]
theorem lift_unit {s : Sem Unit} {w' : World} (hs : s.run P w = .ok () w') : (do s; pure .skip : Sem Next).run P w = .ok .skip w' := by
  simp [hs]
theorem retV_eq {o : Option Value} {n : ANext} {h h' : AHeap} (e : retV o h = some (n, h')) : ∃ v, o = some v ∧ n = .value v ∧ h' = h := by
  obtain ⟨v, hv, e1⟩ := ob_eq e
  cases e1
  exact ⟨v, hv, rfl, rfl⟩
theorem retW_eq {o : Option (Value × AHeap)} {n : ANext} {h' : AHeap} (e : retW o = some (n, h')) : ∃ v, o = some (v, h') ∧ n = .value v := by
  obtain ⟨v, k, hv, e1⟩ := op2_eq e
  cases e1
  exact ⟨v, hv, rfl⟩
theorem retH_eq {o : Option AHeap} {n : ANext} {h' : AHeap} (e : retH o = some (n, h')) : o = some h' ∧ n = .skip := by
  obtain ⟨v, hv, e1⟩ := ob_eq e
  cases e1
  exact ⟨hv, rfl⟩

theorem makeMap_of [Atoms] [iF : Forc] (H : HR gl r h w0 w) {t : TypeId} {res : Option Value} (hr : ∀ x, res = some x → ∃ k n, x = .int k n ∧ ∃ kt et, P.underlying t = some (.map kt et)) :
    ∃ r' w', Ext h.next r r' ∧ HR gl r' (h.push (.map [] 0)) w0 w' ∧ cv r' (.map (some h.next)) = some (.map (some w.heap.size)) ∧ (Instr.makeMap t res).run P w = .ok (.map (some w.heap.size)) w' := by
  have hor : OR (r.ext h.next ⟨w.heap.size, 0, 0⟩) ⟨w.heap.size, 0, 0⟩ (.map #[] 0) (.map [] 0) := ⟨_, rfl, rfl⟩
  refine ⟨_, _, Ext.of H, H.alloc (a := .map [] 0) (o := .map #[] 0) 0 hor, by simp only [cv, Rho.ext_same], ?_⟩
  unfold Instr.makeMap
  cases res with
  | none => simp only [Sem.run_bind, run_newObj, Result.andThen_ok, Sem.run_pure, World.alloc_eq]
  | some x =>
    obtain ⟨k, n, ex, kt, et, ht⟩ := hr x rfl
    subst ex
    simp only [Sem.run_bind, run_underlying' w ht, asInt, asIntOf, run_newObj, Result.andThen_ok, Sem.run_pure, World.alloc_eq]
end
end Go.Am

namespace Go.Am
open Go Go.RowKit Forc

section
variable {gl : Nat} {r : Rho} {h : AHeap} {w0 w : World} {P : Program}

theorem callee_of [Atoms] (_H : HR gl r h w0 w) {f f' : Value} {vs vs' : List Value} {_c : Call} {_ty : TypeId} {n : ANext} (hf : cv r f = some f') (hvs : cvs r vs = some vs') (q : calleeA f vs = some n) :
    OutR P r w ((do let d ← Deferred.ofValue f' ⟨vs'⟩; invoke d.target d.args : Sem Next).run P w) n := by
  cases f with
  | func fn first cap =>
    obtain ⟨fn', a', b', e1, h1, h2, h3⟩ := cv_func_eq hf
    subst e1
    cases fn with
    | func g =>
      cases q
      cases h1
      refine ⟨(a' ++ vs') ++ b', cvs_append (cvs_append h2 hvs) h3, ?_⟩
      simp only [Deferred.ofValue, Sem.run_bind, Sem.run_pure, Result.andThen_ok, invoke]
      congr 1
      congr 1
      apply Array.ext'; simp
    | yield l =>
      cases q
      obtain ⟨pb, hp, e1⟩ : ∃ pb, r l = some pb ∧ fn' = .yield pb.blk := by
        simp only [cfn] at h1
        split at h1
        · rename_i pb hp; cases h1; exact ⟨pb, hp, rfl⟩
        · cases h1
      subst e1
      refine ⟨pb, a' ++ vs', hp, cvs_append h2 hvs, ?_⟩
      simp only [Deferred.ofValue, Sem.run_bind, Sem.run_pure, Result.andThen_ok, invoke]
      congr 1
      congr 1
      apply Array.ext'; simp
    | _ => cases q
  | _ => cases q

theorem ext1 {α : Type} (a : α) (l : List α) : (⟨a :: l⟩ : Array α).extract 1 (⟨a :: l⟩ : Array α).size = ⟨l⟩ := by
  simp

theorem findM_eq {name : String} : ∀ {l : List Method} {m : Method}, findM name l = some m → l.find? (fun x => x.name == name) = some m
  | [], _, e => by cases e
  | x :: l, m, e => by
    rcases ci_some (show ci (decide (x.name = name)) (some x) (findM name l) = some m from e) with ⟨h1, h2⟩ | ⟨h1, h2⟩
    · cases h2
      have : (x.name == name) = true := by simpa using h1
      rw [List.find?_cons, this]
    · have : (x.name == name) = false := by simpa using h1
      rw [List.find?_cons, this]
      exact findM_eq h2

theorem isPtrD_eq {d : TypeDesc} : isPtrD d = true → ∃ t, d = .pointer t := by
  cases d <;> intro h <;> first | exact ⟨_, rfl⟩ | cases h

theorem receiverAt_val [Atoms] {t : TypeId} {d : TypeDesc} {x : Value} {b : Bool} {wr : Option String} (hd : P.underlying t = some d) (hb : isPtrD d = b) (hb2 : b = true ∨ isPtrD d = false) :
    (receiverAt t (.val x) b wr).run P w = .ok x w := by
  subst hb
  unfold receiverAt
  cases hq : isPtrD d with
  | true =>
    obtain ⟨e, he⟩ := isPtrD_eq hq
    subst he
    simp only [Sem.run_bind, run_underlying' w hd, Result.andThen_ok, Place.get, Sem.run_pure]
  | false =>
    simp only [Sem.run_bind, run_underlying' w hd, Result.andThen_ok]
    cases d <;> first | (cases hq; done) | simp only [Place.get, Sem.run_pure]

theorem receiverAt_var {t : TypeId} {d : TypeDesc} {a : Addr} {wr : Option String} (hd : P.underlying t = some d) (hb : isPtrD d = false) :
    (receiverAt t (.var a) true wr).run P w = .ok (.pointer (some a)) w := by
  unfold receiverAt
  simp only [Sem.run_bind, run_underlying' w hd, Result.andThen_ok]
  cases d <;> first | (cases hb; done) | simp only [Sem.run_pure]

theorem recv_of [Atoms] [iF : Forc] {t : TypeId} {x x' v : Value} {ptr : Bool} {path : List FieldStep} {wr : Option String} (hx : cv r x = some x') (q : recvA (AP.of P) t x ptr path = some v) :
    ∃ v', cv r v = some v' ∧ ((do let (xt, x) ← follow path t (.val x'); receiverAt xt x ptr wr : Sem Value).run P w) = .ok v' w := by
  cases path with
  | nil =>
    obtain ⟨d, hd, q1⟩ := ob_eq (show ob ((AP.of P).und t) (fun d => ci (bEq (isPtrD d) ptr) (some x) none) = some v from q)
    obtain ⟨hb, q2⟩ := ci_then q1
    cases q2
    have hd := und_spec hd
    have hb : isPtrD d = ptr := by cases h : isPtrD d <;> cases ptr <;> simp_all [bEq]
    refine ⟨x', hx, ?_⟩
    have : (follow ([] : List FieldStep) t (.val x')).run P w = .ok (t, .val x') w := rfl
    simp only [Sem.run_bind, this, Result.andThen_ok]
    exact receiverAt_val hd hb (by cases ptr; exact .inr hb; exact .inl rfl)
  | cons s l => cases l with
    | cons _ _ => cases q
    | nil =>
      rcases ci_some (show ci s.deref (ci ptr (fieldsOf (AP.of P) s.struct s.index fun fd => ob ((AP.of P).und fd.type) fun d => ci (isPtrD d) none (fieldAddrA (AP.of P) s.struct x s.index)) none)
        (fieldsOf (AP.of P) s.struct s.index fun fd => ob ((AP.of P).und fd.type) fun d => ci (bEq (isPtrD d) ptr) (fieldA (AP.of P) s.struct x s.index) none) = some v from q) with ⟨hs, q1⟩ | ⟨hs, q1⟩
      · obtain ⟨hp, q2⟩ := ci_then q1
        subst hp
        obtain ⟨fs, fd, h1, h2, q3⟩ := fields_inv q2
        obtain ⟨d, hd, q4⟩ := ob_eq q3
        obtain ⟨hnp, q5⟩ := ci_else q4
        have hd := und_spec hd
        obtain ⟨fs2, fd2, h12, h22, e⟩ := fields_inv q5
        rw [h1] at h12; cases h12
        rw [h2] at h22; cases h22
        cases x with
        | pointer a =>
          obtain ⟨a, ea, e8⟩ := ob_eq e
          subst ea
          obtain ⟨n, hn, e9⟩ := ob_eq e8
          obtain ⟨j, hj, ej⟩ := size_spec hn
          subst ej
          obtain ⟨hl, e7⟩ := ci_then e9
          have hl := nblt.1 hl
          cases e7
          obtain ⟨b, eb, hb⟩ := cv_ptr_eq hx
          subst eb
          refine ⟨.pointer (some (b.add fd.offset)), ?_, ?_⟩
          · rw [addA_eq]; simp only [cv, ca_add hb]
          · have hfp : (fieldPlace b fd).run P w = .ok (b.add fd.offset) w := by
              simp only [fieldPlace, Sem.run_bind, run_sizeOf' w hj, Result.andThen_ok]
              rw [if_neg (by omega)]
              rfl
            have hfo : (follow [s] t (.val (.pointer (some b)))).run P w = .ok (fd.type, .var (b.add fd.offset)) w := by
              simp only [follow, Sem.run_bind, run_underlying' w h1, Result.andThen_ok, h2, hs, if_true, Place.get, Sem.run_pure, asAddr, hfp]
            simp only [Sem.run_bind, hfo, Result.andThen_ok]
            exact receiverAt_var hd hnp
        | _ => cases e
      · obtain ⟨fs, fd, h1, h2, q3⟩ := fields_inv q1
        obtain ⟨d, hd, q4⟩ := ob_eq q3
        obtain ⟨hb, q5⟩ := ci_then q4
        have hd := und_spec hd
        have hb : isPtrD d = ptr := by cases h : isPtrD d <;> cases ptr <;> simp_all [bEq]
        obtain ⟨fs2, fd2, h12, h22, e⟩ := fields_inv q5
        rw [h1] at h12; cases h12
        rw [h2] at h22; cases h22
        cases x with
        | agg cs =>
          obtain ⟨cs', ecs, hcs⟩ := cv_agg_eq hx
          subst ecs
          obtain ⟨v', h3, h4⟩ := part_of (w := w) hcs e
          refine ⟨v', h3, ?_⟩
          have hfo : (follow [s] t (.val (.agg ⟨cs'⟩))).run P w = .ok (fd.type, .val v') w := by
            simp only [follow, Sem.run_bind, run_underlying' w h1, Result.andThen_ok, h2, hs, Bool.false_eq_true, if_false, h4, Sem.run_pure]
          simp only [Sem.run_bind, hfo, Result.andThen_ok]
          exact receiverAt_val hd hb (by cases ptr; exact .inr hb; exact .inl rfl)
        | _ => cases e

theorem invoke_of [Atoms] [iF : Forc] {name : String} {f f' : Value} {vs vs' : List Value} {n : ANext} (hf : cv r f = some f') (hvs : cvs r vs = some vs') (q : invokeA (AP.of P) name f vs = some n) :
    OutR P r w ((callMethod f' name ⟨vs'⟩).run P w) n := by
  cases f with
  | iface t x =>
    obtain ⟨x', e1, hx⟩ := cv_iface_eq hf
    subst e1
    obtain ⟨ti, hti, q1⟩ := ob_eq (show ob ((AP.of P).types.get t) (fun ti => ob (findM name ti.methods.toList) fun m => ob m.func fun q => ob (recvA (AP.of P) t x q.2 m.path.toList) fun x => some (ANext.enter q.1 (x :: vs))) = some n from q)
    obtain ⟨m, hm, q2⟩ := ob_eq q1
    obtain ⟨fq, hfq, q3⟩ := ob_eq q2
    obtain ⟨u, hu, q4⟩ := ob_eq q3
    cases q4
    obtain ⟨g, ptr⟩ := fq
    have hti := info_of_types hti
    have hm := findM_eq hm
    obtain ⟨u', hu1, hu2⟩ := recv_of (w := w) (wr := if m.path.isEmpty then some ((name.splitOn ".").getLastD name) else none) hx hu
    refine ⟨u' :: vs', by simp only [cvs, hu1, hvs], ?_⟩
    unfold callMethod
    have hpr : (program : Sem Program).run P w = .ok P w := rfl
    have hfind : ti.methods.find? (fun x => x.name == name) = some m := by rw [← Array.find?_toList]; exact hm
    have hmeth : (method (P.types.size + Made.depth) t x' name).run P w = .ok (g, u') w := by
      have : P.types.size + Made.depth = (P.types.size + (Made.depth - 1)) + 1 := by
        show P.types.size + Made.depth = P.types.size + (Made.depth - 1) + 1
        have : 0 < Made.depth := by decide
        omega
      rw [this]
      unfold method
      simp only [Sem.run_bind, run_typeInfo' w hti, Result.andThen_ok, hfind, hfq]
      simp only [Sem.run_bind] at hu2
      cases hfo : (follow m.path.toList t (.val x')).run P w with
      | ok q w2 =>
        rw [hfo] at hu2
        simp only [Result.andThen_ok] at hu2 ⊢
        rw [hu2]
        simp only [Result.andThen_ok, Sem.run_pure]
      | halt q w2 => rw [hfo] at hu2; cases hu2
    simp only [Sem.run_bind, hpr, Result.andThen_ok, hmeth]
    congr 1
    congr 1
    apply Array.ext'; simp
  | _ => cases q

theorem array_map {α β : Type} (f : α → β) (a : Array α) : a.map f = ⟨a.toList.map f⟩ := by apply Array.ext'; simp
theorem arr {α : Type} (a : Array α) : a = ⟨a.toList⟩ := rfl

/-- **ONE OPERATION** -/
theorem oper_sound [Atoms] [iF : Forc] (H : HR gl r h w0 w) {tm : T Value} {ρ : Operand → Value} (o : Oper) (hev : EV r tm gl ρ o.op.operands.toList) {n : ANext} {h' : AHeap} (q : operF o.op (AP.of P) gl tm h = some (n, h')) :
    ∃ r' w', Ext h.next r r' ∧ HR gl r' h' w0 w' ∧ OutR P r' w' ((execOp ρ o).run P w) n := by
  have quiet : retV (quietF o.op (AP.of P) gl tm h) h = some (n, h') → ∃ r' w', Ext h.next r r' ∧ HR gl r' h' w0 w' ∧ OutR P r' w' ((execOp ρ o).run P w) n := by
    intro q
    obtain ⟨v, hv, e1, e2⟩ := retV_eq q
    subst e1; subst e2
    obtain ⟨v', a, b⟩ := quiet_sound (P := P) H o hev hv
    exact ⟨r, w, Ext.rfl, H, v', a, b⟩
  obtain ⟨dst, op, type, pos, after, guard⟩ := o
  simp only at hev q quiet
  cases op with
  | alloc e =>
    obtain ⟨z, hz, q1⟩ := ob_eq q
    obtain ⟨_, q2⟩ := ci_then q1
    obtain ⟨j, hj, hjz, hlit⟩ := zero_spec hz
    obtain ⟨r', w', k1, k2, k3⟩ := rowV_of (P := P) H (cv_cells (lit_spec hlit)) q2
    refine ⟨r', w', k1, k2, ?_⟩
    have : (execOp ρ ⟨dst, .alloc e, type, pos, after, guard⟩).run P w = ((do pure (.value (← (do pure (.pointer (some (← newRow e z.cells))) : Sem Value))) : Sem Next).run P w) := by
      simp only [execOp, Instr.alloc, newVar, Sem.run_bind, run_zeroValue' w hj hjz, Result.andThen_ok, Sem.run_pure]
    rw [this]; exact k3
  | box e x =>
    obtain ⟨u, hu, q1⟩ := ob_eq q
    have hx := hev x u (by simp [Op.operands]) hu
    obtain ⟨r', w', k1, k2, k3⟩ := rowV_of (P := P) H (cv_cells hx) q1
    refine ⟨r', w', k1, k2, ?_⟩
    exact k3
  | buildSlice t len parts =>
    obtain ⟨ps, hp, q1⟩ := ob_eq q
    obtain ⟨v, q2, e1⟩ := retW_eq q1
    subst e1
    obtain ⟨h1, h2⟩ := evalP_of (r := r) (ρ := ρ) (fun x u hx => hev x u (by simp [Op.operands] at hx ⊢; exact hx)) hp
    obtain ⟨r', w', v', k1, k2, k3, k4⟩ := buildSlice_of (P := P) H h1 h2 q2
    refine ⟨r', w', k1, k2, v', k3, ?_⟩
    have : (parts.map fun (i, x) => (i, ρ x)) = ⟨parts.toList.map fun q => (q.1, ρ q.2)⟩ := by
      apply Array.ext'; simp
    simp only [execOp]
    rw [this]
    exact lift_run k4
  | store t a x =>
    obtain ⟨av, ha, q1⟩ := ob_eq q
    obtain ⟨v, hv, q2⟩ := ob_eq q1
    have ha' := hev a av (by simp [Op.operands]) ha
    have hv' := hev x v (by simp [Op.operands]) hv
    cases av with
    | pointer a0 =>
      obtain ⟨a0, e1, q3⟩ := ob_eq (show ob a0 _ = some (n, h') from q2)
      subst e1
      obtain ⟨q4, e1⟩ := retH_eq q3
      subst e1
      obtain ⟨b, hb, hca⟩ := cv_ptr_eq ha'
      obtain ⟨w', s1, s2⟩ := store_var_of (P := P) H hca hv' q4
      refine ⟨r, w', Ext.rfl, s2, ?_⟩
      have : (Instr.storeAt t (ρ a) (ρ x)).run P w = .ok () w' := by
        simp only [Instr.storeAt, hb, Instr.sureAddr, Sem.run_bind, Sem.run_pure, Result.andThen_ok, s1]
      exact lift_unit this
    | _ => cases q2
  | makeMap t res =>
    have key : ∀ (res' : Option Value), res' = res.map ρ → (∀ x, res' = some x → ∃ k n, x = .int k n ∧ ∃ kt et, P.underlying t = some (.map kt et)) →
        some (ANext.value (.map (some h.next)), h.push (.map [] 0)) = some (n, h') → ∃ r' w', Ext h.next r r' ∧ HR gl r' h' w0 w' ∧ OutR P r' w' ((execOp ρ ⟨dst, .makeMap t res, type, pos, after, guard⟩).run P w) n := by
      intro res' e1 hr q
      cases q
      obtain ⟨r', w', k1, k2, k3, k4⟩ := makeMap_of (P := P) H (t := t) hr
      rw [e1] at k4
      exact ⟨r', w', k1, k2, _, k3, lift_run k4⟩
    cases res with
    | none => exact key none rfl (by intro x hx; cases hx) q
    | some x =>
      obtain ⟨d, hd, q1⟩ := ob_eq q
      obtain ⟨hm, q2⟩ := ci_then q1
      obtain ⟨u, hu, q3⟩ := ob_eq q2
      obtain ⟨m, hm2, q4⟩ := ob_eq q3
      have hx := hev x u (by simp [Op.operands]) hu
      obtain ⟨k, ek⟩ := natOf_eq hm2
      subst ek
      have hx := cv_int_eq hx
      refine key (some (ρ x)) rfl ?_ q4
      intro y hy
      cases hy
      have hd := und_spec hd
      cases d <;> simp [isMapD] at hm
      exact ⟨k, m, hx, _, _, hd⟩
  | makeSlice t l c =>
    obtain ⟨lv, hl, q1⟩ := ob_eq q
    obtain ⟨cv', hc, q2⟩ := ob_eq q1
    obtain ⟨v, q3, e1⟩ := retW_eq q2
    subst e1
    obtain ⟨r', w', v', k1, k2, k3, k4⟩ := makeSlice_of (P := P) H (hev l lv (by simp [Op.operands]) hl) (hev c cv' (by simp [Op.operands]) hc) q3
    exact ⟨r', w', k1, k2, v', k3, lift_run k4⟩
  | mapUpdate t m k x =>
    obtain ⟨mv, hm, q1⟩ := ob_eq q
    obtain ⟨kv, hk, q2⟩ := ob_eq q1
    obtain ⟨xv, hx, q3⟩ := ob_eq q2
    obtain ⟨q4, e1⟩ := retH_eq q3
    subst e1
    obtain ⟨w', s1, s2⟩ := mapUpdate_of (P := P) H (hev m mv (by simp [Op.operands]) hm) (hev k kv (by simp [Op.operands]) hk) (hev x xv (by simp [Op.operands]) hx) q4
    exact ⟨r, w', Ext.rfl, s1, lift_unit s2⟩
  | insert t m k x =>
    obtain ⟨mv, hm, q1⟩ := ob_eq q
    obtain ⟨kv, hk, q2⟩ := ob_eq q1
    obtain ⟨xv, hx, q3⟩ := ob_eq q2
    obtain ⟨q4, e1⟩ := retH_eq q3
    subst e1
    obtain ⟨w', s1, s2⟩ := mapUpdate_of (P := P) H (hev m mv (by simp [Op.operands]) hm) (hev k kv (by simp [Op.operands]) hk) (hev x xv (by simp [Op.operands]) hx) q4
    exact ⟨r, w', Ext.rfl, s1, lift_unit s2⟩
  | convert s d x =>
    obtain ⟨xv, hx, q1⟩ := ob_eq q
    obtain ⟨v, q2, e1⟩ := retW_eq q1
    subst e1
    obtain ⟨r', w', v', k1, k2, k3, k4⟩ := convW_of (P := P) H (hev x xv (by simp [Op.operands]) hx) q2
    exact ⟨r', w', k1, k2, v', k3, lift_run k4⟩
  | range t x =>
    obtain ⟨d, hd, q1⟩ := ob_eq q
    obtain ⟨xv, hx, q2⟩ := ob_eq q1
    exact range_of' (P := P) H (hev x xv (by simp [Op.operands]) hx) (und_spec hd) q2
  | next it st =>
    obtain ⟨xv, hx, q1⟩ := ob_eq q
    obtain ⟨w', k1, k2⟩ := nextS_of (P := P) H (ty := type) (hev it xv (by simp [Op.operands]) hx) q1
    exact ⟨r, w', Ext.rfl, k1, k2⟩
  | entry it =>
    obtain ⟨xv, hx, q1⟩ := ob_eq q
    obtain ⟨k1, k2⟩ := entry_of (P := P) H (hev it xv (by simp [Op.operands]) hx) q1
    exact ⟨r, w, Ext.rfl, k1, k2⟩
  | call c =>
    obtain ⟨callee, args, argTypes⟩ := c
    have q0 : callF ⟨callee, args, argTypes⟩ (AP.of P) gl tm h = some (n, h') := q
    cases callee with
    | value f =>
      obtain ⟨fv, hf, q1⟩ := ob_eq q0
      obtain ⟨vs, hvs, q2⟩ := ob_eq q1
      obtain ⟨m, hm, q3⟩ := ob_eq q2
      cases q3
      have h1 := hev f fv (by simp [Op.operands, Call.operands]) hf
      have h2 := evalL_of (r := r) (ρ := ρ) (fun x u hx => hev x u (by simp [Op.operands, Call.operands] at hx ⊢; exact .inr hx)) hvs
      refine ⟨r, w, Ext.rfl, H, ?_⟩
      have := callee_of (P := P) (_c := ⟨.value f, args, argTypes⟩) (_ty := type) H h1 h2 hm
      simp only [execOp, resolve]
      rw [array_map ρ args]
      exact this
    | invoke f name =>
      obtain ⟨fv, hf, q1⟩ := ob_eq q0
      obtain ⟨vs, hvs, q2⟩ := ob_eq q1
      obtain ⟨m, hm, q3⟩ := ob_eq q2
      cases q3
      have h1 := hev f fv (by simp [Op.operands, Call.operands]) hf
      have h2 := evalL_of (r := r) (ρ := ρ) (fun x u hx => hev x u (by simp [Op.operands, Call.operands] at hx ⊢; exact .inr hx)) hvs
      refine ⟨r, w, Ext.rfl, H, ?_⟩
      have := invoke_of (P := P) (w := w) h1 h2 hm
      have e1 : (execOp ρ ⟨dst, .call ⟨.invoke f name, args, argTypes⟩, type, pos, after, guard⟩).run P w = (callMethod (ρ f) name ⟨args.toList.map ρ⟩).run P w := by
        simp only [execOp, resolve, Sem.run_bind, Sem.run_pure, Result.andThen_ok, invoke]
        have e4 : (#[ρ f] ++ args.map ρ) = ⟨ρ f :: args.toList.map ρ⟩ := by
          apply Array.ext'; simp
        have e3 := ext1 (ρ f) (args.toList.map ρ)
        rw [e4, e3]
        rfl
      rw [e1]; exact this
    | builtin b =>
      obtain ⟨vs, hvs, q1⟩ := ob_eq q0
      have hargs := evalL_of (r := r) (ρ := ρ) (fun x u hx => hev x u (by simp [Op.operands, Call.operands] at hx ⊢; exact hx)) hvs
      have hrun : ∀ {s : Sem Value} {v' : Value} {w' : World} {bb : Builtin}, (∀ cs, builtin bb argTypes type cs ⟨args.toList.map ρ⟩ = (do pure (.value (← s)))) → s.run P w = .ok v' w' → bb = b →
          (execOp ρ ⟨dst, .call ⟨.builtin b, args, argTypes⟩, type, pos, after, guard⟩).run P w = .ok (.value v') w' := by
        intro s v' w' bb hb hs hbb
        subst hbb
        simp only [execOp, resolve, Sem.run_bind, Sem.run_pure, Result.andThen_ok, invoke]
        rw [array_map ρ args, hb]
        exact lift_run hs
      have quiet2 : (ob (evalL tm gl args.toList) fun vs => builtinQ (AP.of P) h argTypes.toList vs b) = quietF (.call ⟨.builtin b, args, argTypes⟩) (AP.of P) gl tm h := rfl
      have qq : ∀ bb, bb = b → retV (builtinQ (AP.of P) h argTypes.toList vs bb) h = some (n, h') → ∃ r' w', Ext h.next r r' ∧ HR gl r' h' w0 w' ∧ OutR P r' w' ((execOp ρ ⟨dst, .call ⟨.builtin b, args, argTypes⟩, type, pos, after, guard⟩).run P w) n := by
        intro bb ebb q9
        subst ebb
        refine quiet ?_
        rw [← quiet2, hvs]
        exact q9
      cases b with
      | append =>
        obtain ⟨v, q2, e1⟩ := retW_eq (show retW (appendA (AP.of P) h argTypes.toList vs) = some (n, h') from q1)
        subst e1
        obtain ⟨r', w', v', k1, k2, k3, k4⟩ := append_of (P := P) (ty := type) H hargs q2
        exact ⟨r', w', k1, k2, v', k3, hrun (bb := .append) (s := Builtin.append_ argTypes type ⟨args.toList.map ρ⟩) (fun _ => rfl) k4 rfl⟩
      | copy =>
        obtain ⟨v, q2, e1⟩ := retW_eq (show retW (copyA (AP.of P) h argTypes.toList vs) = some (n, h') from q1)
        subst e1
        obtain ⟨w', k2, k3, k4⟩ := copy_of (P := P) (ty := type) H hargs q2
        exact ⟨r, w', Ext.rfl, k2, v, k3, hrun (bb := .copy) (s := Builtin.copy_ argTypes type ⟨args.toList.map ρ⟩) (fun _ => rfl) k4 rfl⟩
      | clear =>
        obtain ⟨v, q2, e1⟩ := retW_eq (show retW (clearA (AP.of P) h argTypes.toList vs) = some (n, h') from q1)
        subst e1
        obtain ⟨w', k2, k3, k4⟩ := clear_of (P := P) (ty := type) H hargs q2
        exact ⟨r, w', Ext.rfl, k2, v, k3, hrun (bb := .clear) (s := Builtin.clear_ argTypes type ⟨args.toList.map ρ⟩) (fun _ => rfl) k4 rfl⟩
      | delete =>
        have q2 : (one argTypes.toList fun t => two vs fun m k => ob (deleteA (AP.of P) h t m k) fun h => some (ANext.value (.tuple #[]), h)) = some (n, h') := q1
        cases hts : argTypes.toList with
        | nil => rw [hts] at q2; cases q2
        | cons t ts =>
          rw [hts] at q2
          cases vs with
          | nil => cases q2
          | cons m vs => cases vs with
            | nil => cases q2
            | cons k vs =>
              obtain ⟨h2, q3, q4⟩ := ob_eq (show ob (deleteA (AP.of P) h t m k) _ = some (n, h') from q2)
              cases q4
              obtain ⟨m', a1, ea, hm, ha1⟩ := cvs_cons hargs
              obtain ⟨k', a2, ea2, hk, ha2⟩ := cvs_cons ha1
              subst ea2
              obtain ⟨w', k1, k2⟩ := delete_of (P := P) (ty := type) (ts := ts) (xs := a2) H hm hk q3
              refine ⟨r, w', Ext.rfl, k1, .tuple #[], by simp [cv, cvs], hrun (bb := .delete) (s := Builtin.delete_ argTypes type ⟨args.toList.map ρ⟩) (fun _ => rfl) ?_ rfl⟩
              have hat : argTypes = ⟨t :: ts⟩ := by apply Array.ext'; simpa using hts
              rw [ea, hat]; exact k2
      | recover =>
        cases q1
        refine ⟨r, w, Ext.rfl, H, ?_⟩
        show (execOp ρ ⟨dst, .call ⟨.builtin .recover, args, argTypes⟩, type, pos, after, guard⟩).run P w = .ok .recover w
        simp only [execOp, resolve, Sem.run_bind, Sem.run_pure, Result.andThen_ok, invoke, builtin]
      | len => exact qq .len rfl q1
      | cap => exact qq .cap rfl q1
      | min => exact qq .min rfl q1
      | max => exact qq .max rfl q1
      | _ => cases q1
  | defer c =>
    obtain ⟨callee, args, argTypes⟩ := c
    have q0 : deferF ⟨callee, args, argTypes⟩ (AP.of P) gl tm h = some (n, h') := q
    cases callee with
    | value f =>
      obtain ⟨fv, hf, q1⟩ := ob_eq q0
      obtain ⟨vs, hvs, q2⟩ := ob_eq q1
      have h1 := hev f fv (by simp [Op.operands, Call.operands]) hf
      have h2 := evalL_of (r := r) (ρ := ρ) (fun x u hx => hev x u (by simp [Op.operands, Call.operands] at hx ⊢; exact .inr hx)) hvs
      cases fv with
      | func fn first cap =>
        cases q2
        obtain ⟨fn', a', b', e1, g1, g2, g3⟩ := cv_func_eq h1
        refine ⟨r, w, Ext.rfl, H, { target := .fn fn' ⟨b'⟩, args := ⟨a' ++ args.toList.map ρ⟩ }, ⟨cvs_append g2 h2, fn', ⟨b'⟩, rfl, g1, g3⟩, ?_⟩
        simp only [execOp, resolve, e1, Deferred.ofValue, Sem.run_bind, Sem.run_pure, Result.andThen_ok]
        rw [array_map ρ args]
        congr 3
        apply Array.ext'; simp
      | _ => cases q2
    | _ => cases q0
  | panic x =>
    obtain ⟨xv, hx, q1⟩ := ob_eq q
    have hx := hev x xv (by simp [Op.operands]) hx
    cases xv with
    | iface t y =>
      cases q1
      obtain ⟨y', e1, hy⟩ := cv_iface_eq hx
      refine ⟨r, w, Ext.rfl, H, .iface t y', by simp only [cv, hy], ?_⟩
      simp [execOp, e1, Instr.panic, goPanic]
    | _ => cases q1
  | move x => exact quiet q
  | assign x => exact quiet q
  | pick c a b => exact quiet q
  | build t parts => exact quiet q
  | load t a => exact quiet q
  | nilCheck x => exact quiet q
  | binOp op t x y ty => exact quiet q
  | unOp op t x => exact quiet q
  | sliceToArrayPointer arr x => exact quiet q
  | makeInterface t x => exact quiet q
  | makeFunc fn first cap => exact quiet q
  | slice t x lo hi mx => exact quiet q
  | fieldAddr t x f => exact quiet q
  | field t x f => exact quiet q
  | indexAddr t x i => exact quiet q
  | index t x i => exact quiet q
  | lookup t x i ok => exact quiet q
  | typeAssert x xt a ok => exact quiet q
  | extract x i => exact quiet q
  | _ => cases q
end
end Go.Am

namespace Go.Am
open Go Go.RowKit Forc

section
variable {h h' : AHeap} {p : AP} {gl : Nat} {tm tm' : T Value}

/-! ## numbers are only ever added -/
theorem storeCells_next [Atoms] {a : Addr} {vs : List Value} (e : storeCellsA h a vs = some h') : h'.next = h.next := by
  obtain ⟨_, e1⟩ := spotless_eq e
  obtain ⟨c, m, t, opn, ro, hg, e2⟩ := onCells_eq e1
  obtain ⟨_, e3⟩ := ci_else e2
  obtain ⟨_, e4⟩ := ci_then e3
  obtain ⟨c', hc, e5⟩ := ob_eq e4
  cases e5; rfl
theorem store_next [Atoms] {t : TypeId} {a : Addr} {v : Value} (e : storeA p h t a v = some h') : h'.next = h.next := by
  obtain ⟨n, _, e1⟩ := ob_eq e
  obtain ⟨_, e2⟩ := ci_then e1
  exact storeCells_next e2
theorem newRow_next [Atoms] [iF : Forc] {t : TypeId} {l : List Value} {b : Bool} : (newRowA h t l b).next = h.next + 1 := by unfold newRowA; simp
theorem mapUpdate_next [Atoms] {t : TypeId} {m k v : Value} (e : mapUpdateA p h t m k v = some h') : h'.next = h.next := by
  obtain ⟨d, _, e1⟩ := ob_eq e
  cases d with
  | map kt et =>
    obtain ⟨_, _, e2⟩ := ob_eq e1
    obtain ⟨kk, _, e3⟩ := ob_eq e2
    obtain ⟨_, e4⟩ := ci_then e3
    obtain ⟨i, _, e5⟩ := mapRef_eq e4
    obtain ⟨es, clock, _, e6⟩ := onMap_eq e5
    obtain ⟨q, _, e7⟩ := ob_eq e6
    cases q <;> (cases e7; rfl)
  | _ => cases e1
theorem delete_next [Atoms] {t : TypeId} {m k : Value} (e : deleteA p h t m k = some h') : h'.next = h.next := by
  obtain ⟨d, _, e1⟩ := ob_eq e
  cases d with
  | map kt et =>
    obtain ⟨_, _, e2⟩ := ob_eq e1
    obtain ⟨kk, _, e3⟩ := ob_eq e2
    obtain ⟨_, e4⟩ := ci_then e3
    cases m with
    | map r =>
      cases r with
      | none => cases e4; rfl
      | some r =>
        obtain ⟨es, clock, _, e6⟩ := onMap_eq (show onMap (h.get r) _ = some h' from e4)
        obtain ⟨q, _, e7⟩ := ob_eq e6
        cases q <;> (cases e7; rfl)
    | _ => cases e4
  | _ => cases e1
theorem grown_next [Atoms] [iF : Forc] {e : TypeId} {size need : Nat} {l : List Value} {v : Value} (g : grown h e size need l = some (v, h')) : h.next ≤ h'.next := by
  cases g; rw [newRow_next]; omega
theorem append_next [Atoms] [iF : Forc] {ats : List TypeId} {args : List Value} {v : Value} (q : appendA p h ats args = some (v, h')) : h.next ≤ h'.next := by
  unfold appendA two at q
  cases ats with
  | nil => cases q
  | cons st ats => cases ats with
    | nil => cases q
    | cons xt ats => cases args with
      | nil => cases q
      | cons s args => cases args with
        | nil => cases q
        | cons x args =>
          obtain ⟨e, he, q1⟩ := ob_eq (show ob (sliceE p st) _ = some (v, h') from q)
          obtain ⟨xd, hxd, q2⟩ := ob_eq q1
          cases s with
          | slice base sLen sCap =>
            have q3 : appendV p h e xd base sLen sCap x = some (v, h') := q2
            unfold appendV at q3
            obtain ⟨size, hsz, q4⟩ := ob_eq q3
            obtain ⟨bytes, hby, q5⟩ := ob_eq q4
            obtain ⟨z, hz, q6⟩ := ob_eq q5
            obtain ⟨n, new, hnew, q7⟩ := op2_eq q6
            rw [fN_eq] at q7
            obtain ⟨hc, q8⟩ := ci_then q7
            cases base with
            | none =>
              obtain ⟨_, q9⟩ := ci_then (show ci (Nat.beq sCap 0 && Nat.beq sLen 0) (ci (Nat.beq (Nat.add sLen n) 0) (some (.slice none 0 0, h)) (grown h e size (Nat.add sLen n) new)) none = some (v, h') from q8)
              rcases ci_some q9 with ⟨_, q10⟩ | ⟨_, q10⟩
              · cases q10; exact Nat.le_refl _
              · exact grown_next q10
            | some a =>
              have q9 : appendS h e size a sLen sCap (Nat.add sLen n) new = some (v, h') := q8
              unfold appendS at q9
              rcases ci_some q9 with ⟨_, q10⟩ | ⟨_, q10⟩
              · rcases ci_some q10 with ⟨_, q11⟩ | ⟨_, q11⟩
                · obtain ⟨h2, hst, q12⟩ := ob_eq q11
                  cases q12
                  rw [storeCells_next hst]; exact Nat.le_refl _
                · obtain ⟨old, _, q12⟩ := ob_eq q11
                  exact grown_next q12
              · rcases ci_some q10 with ⟨_, q11⟩ | ⟨_, qE⟩
                rotate_left
                · unfold appendE at qE
                  obtain ⟨_, q12⟩ := ci_then qE
                  obtain ⟨c, m, t, opn, ro, _, q13⟩ := onCells_eq q12
                  obtain ⟨_, q14⟩ := ci_then q13
                  have := grown_next q14
                  rw [next_put] at this; exact this
                obtain ⟨k, _, q12⟩ := ob_eq q11
                rcases ci_some q12 with ⟨_, q13⟩ | ⟨_, q13⟩
                · obtain ⟨h2, hst, q14⟩ := ob_eq q13
                  cases q14
                  rw [storeCells_next hst]; exact Nat.le_refl _
                · obtain ⟨old, _, q14⟩ := ob_eq q13
                  obtain ⟨c, m, t, opn, ro, _, q15⟩ := onCells_eq q14
                  obtain ⟨_, q16⟩ := ci_then q15
                  have := grown_next q16
                  rw [next_put] at this; exact this
          | _ => cases q2
theorem copy_next [Atoms] [iF : Forc] {ats : List TypeId} {args : List Value} {v : Value} (q : copyA p h ats args = some (v, h')) : h'.next = h.next := by
  unfold copyA one two at q
  cases ats with
  | nil => cases q
  | cons dt ats => cases args with
    | nil => cases q
    | cons d args => cases args with
      | nil => cases q
      | cons x args =>
        obtain ⟨e, _, q1⟩ := ob_eq (show ob (sliceE p dt) _ = some (v, h') from q)
        obtain ⟨size, _, q2⟩ := ob_eq q1
        obtain ⟨sl, _, q3⟩ := ob_eq q2
        cases d with
        | slice base dLen dCap =>
          have q4 : (fN (ci (Nat.ble sl dLen) sl dLen) fun n => copyV h size base dCap n x) = some (v, h') := q3
          rw [fN_eq] at q4
          obtain ⟨cells, _, q5⟩ := ob_eq q4
          cases base with
          | none => cases q5; rfl
          | some a =>
            rcases ci_some (show ci (Nat.blt dCap capEmp) (ob (storeCellsA h a cells) fun h' => some (.int .i64 (.ofNat (ci (Nat.ble sl dLen) sl dLen)), h')) (ci (Nat.beq (ci (Nat.ble sl dLen) sl dLen) 0) (some (.int .i64 (.ofNat 0), h)) none) = some (v, h') from q5) with ⟨_, q6⟩ | ⟨_, q6⟩
            · obtain ⟨h2, hst, q7⟩ := ob_eq q6
              cases q7
              exact storeCells_next hst
            · obtain ⟨_, q7⟩ := ci_then q6
              cases q7; rfl
        | _ => cases q3
theorem clear_next [Atoms] {ats : List TypeId} {args : List Value} {v : Value} (q : clearA p h ats args = some (v, h')) : h'.next = h.next := by
  unfold clearA one at q
  cases ats with
  | nil => cases q
  | cons t ats => cases args with
    | nil => cases q
    | cons x args =>
      obtain ⟨e, _, q1⟩ := ob_eq (show ob (sliceE p t) _ = some (v, h') from q)
      cases x with
      | slice base len cap =>
        cases base with
        | none => cases q1; rfl
        | some a =>
          rcases ci_some (show ci (Nat.beq len 0) (some (.tuple #[], h)) (ob (p.zero e) fun z => ob (p.size e) fun n =>
            ci (Nat.blt cap capEmp && Nat.beq (lenL (cellsOf z)) n) (ob (storeCellsA h a (timesL (cellsOf z) len)) fun h' => some (.tuple #[], h')) none) = some (v, h') from q1) with ⟨_, q2⟩ | ⟨_, q2⟩
          · cases q2; rfl
          · obtain ⟨z, _, q3⟩ := ob_eq q2
            obtain ⟨n, _, q4⟩ := ob_eq q3
            obtain ⟨_, q5⟩ := ci_then q4
            obtain ⟨h2, hst, q6⟩ := ob_eq q5
            cases q6
            exact storeCells_next hst
      | _ => cases q1
theorem rowV_next [Atoms] [iF : Forc] {e : TypeId} {l : List Value} {n : ANext} (x : rowV h e l = some (n, h')) : h.next ≤ h'.next := by
  obtain ⟨_, x1⟩ := ci_then x
  cases x1; rw [newRow_next]; omega
theorem retV_next [Atoms] {o : Option Value} {n : ANext} (e : retV o h = some (n, h')) : h.next ≤ h'.next := by
  obtain ⟨_, _, _, e1⟩ := retV_eq e
  rw [e1]; exact Nat.le_refl _
theorem convW_next [Atoms] [iF : Forc] {src dst : TypeId} {x v : Value} (q : convW p h src dst x = some (v, h')) : h.next ≤ h'.next := by
  have quiet : ∀ {x : Value}, (ob (convQ p h src dst x) fun v => some (v, h)) = some (v, h') → h.next ≤ h'.next := by
    intro x q
    obtain ⟨u, hu, q1⟩ := ob_eq q
    cases q1; exact Nat.le_refl _
  unfold convW at q
  cases x with
  | string s =>
    obtain ⟨sd, _, q1⟩ := ob_eq q
    obtain ⟨dd, _, q2⟩ := ob_eq q1
    cases dd with
    | slice e =>
      obtain ⟨ed, _, q3⟩ := ob_eq q2
      obtain ⟨_, q4⟩ := ci_then q3
      rw [fN_eq] at q4
      obtain ⟨_, q5⟩ := ci_then q4
      cases q5
      rw [newRow_next]; omega
    | _ => exact quiet q2
  | slice a l c =>
    obtain ⟨sd, _, q1⟩ := ob_eq q
    obtain ⟨dd, _, q2⟩ := ob_eq q1
    cases dd with
    | slice e =>
      obtain ⟨ed, _, q3⟩ := ob_eq q2
      obtain ⟨a, _, q4⟩ := ob_eq q3
      obtain ⟨cc, n, t, opn, ro, _, q5⟩ := onCells_eq q4
      obtain ⟨_, q6⟩ := ci_then q5
      cases q6; exact Nat.le_refl _
    | _ => exact quiet q2
  | _ => exact quiet q

theorem operF_next [Atoms] [iF : Forc] {op : Op} {n : ANext} (q : operF op p gl tm h = some (n, h')) : h.next ≤ h'.next := by
  cases op with
  | alloc e =>
    obtain ⟨z, _, q1⟩ := ob_eq q
    obtain ⟨_, q2⟩ := ci_then q1
    exact rowV_next q2
  | box e x => obtain ⟨u, _, q1⟩ := ob_eq q; exact rowV_next q1
  | buildSlice t len parts =>
    obtain ⟨ps, _, q1⟩ := ob_eq q
    obtain ⟨v, q2, _⟩ := retW_eq q1
    obtain ⟨_, _, e1⟩ := ob_eq q2
    obtain ⟨_, _, e2⟩ := ob_eq e1
    obtain ⟨_, _, e3⟩ := ob_eq e2
    obtain ⟨_, e4⟩ := ci_then e3
    obtain ⟨cs, _, e5⟩ := ob_eq e4
    obtain ⟨_, e6⟩ := ci_then e5
    cases e6; rw [newRow_next]; omega
  | store t a x =>
    obtain ⟨av, _, q1⟩ := ob_eq q
    obtain ⟨v, _, q2⟩ := ob_eq q1
    cases av with
    | pointer a0 =>
      obtain ⟨a0, _, q3⟩ := ob_eq (show ob a0 _ = some (n, h') from q2)
      obtain ⟨q4, _⟩ := retH_eq q3
      rw [store_next q4]; exact Nat.le_refl _
    | _ => cases q2
  | makeMap t res =>
    cases res with
    | none => cases q; simp
    | some x =>
      obtain ⟨d, _, q1⟩ := ob_eq q
      obtain ⟨_, q2⟩ := ci_then q1
      obtain ⟨u, _, q3⟩ := ob_eq q2
      obtain ⟨m, _, q4⟩ := ob_eq q3
      cases q4; simp
  | makeSlice t l c =>
    obtain ⟨lv, _, q1⟩ := ob_eq q
    obtain ⟨cv', _, q2⟩ := ob_eq q1
    obtain ⟨v, q3, _⟩ := retW_eq q2
    obtain ⟨et, _, e1⟩ := ob_eq q3
    obtain ⟨ln, _, e2⟩ := ob_eq e1
    obtain ⟨cn, _, e3⟩ := ob_eq e2
    obtain ⟨n, _, e4⟩ := ob_eq e3
    obtain ⟨z, _, e5⟩ := ob_eq e4
    obtain ⟨b, _, e6⟩ := ob_eq e5
    obtain ⟨_, e7⟩ := ci_then e6
    cases e7; rw [newRow_next]; omega
  | mapUpdate t m k x =>
    obtain ⟨mv, _, q1⟩ := ob_eq q
    obtain ⟨kv, _, q2⟩ := ob_eq q1
    obtain ⟨xv, _, q3⟩ := ob_eq q2
    obtain ⟨q4, _⟩ := retH_eq q3
    rw [mapUpdate_next q4]; exact Nat.le_refl _
  | insert t m k x =>
    obtain ⟨mv, _, q1⟩ := ob_eq q
    obtain ⟨kv, _, q2⟩ := ob_eq q1
    obtain ⟨xv, _, q3⟩ := ob_eq q2
    obtain ⟨q4, _⟩ := retH_eq q3
    rw [mapUpdate_next q4]; exact Nat.le_refl _
  | convert s d x =>
    obtain ⟨xv, _, q1⟩ := ob_eq q
    obtain ⟨v, q2, _⟩ := retW_eq q1
    exact convW_next q2
  | range t x =>
    obtain ⟨d, _, q1⟩ := ob_eq q
    obtain ⟨xv, _, q2⟩ := ob_eq q1
    cases d with
    | string => cases xv with
      | string s => cases q2; simp
      | _ => cases q2
    | map kt et => cases xv with
      | map m => cases m with
        | none => cases q2; simp
        | some i =>
          obtain ⟨es, clock, _, q3⟩ := onMap_eq (show onMap (h.get i) _ = some (n, h') from q2)
          cases q3; simp
      | _ => cases q2
    | _ => cases q2
  | next it st =>
    obtain ⟨xv, _, q1⟩ := ob_eq q
    obtain ⟨b, _, q2⟩ := iterOf_eq q1
    obtain ⟨o, _, q4⟩ := ob_eq q2
    cases o with
    | strIter s pos =>
      obtain ⟨_, q5⟩ := ci_then (show ci st (stepS h b pos s) none = some (n, h') from q4)
      cases s with
      | nil => cases q5; exact Nat.le_refl _
      | cons c l =>
        obtain ⟨_, q6⟩ := ci_then q5
        rw [fN_eq, fN_eq] at q6
        cases q6; exact Nat.le_refl _
    | mapIter m since seen last =>
      obtain ⟨_, q5⟩ := ci_else (show ci st none (nextM h b since seen last m) = some (n, h') from q4)
      cases m with
      | none => cases q5; exact Nat.le_refl _
      | some i =>
        obtain ⟨es, clock, _, q6⟩ := onMap_eq (show onMap (h.get i) _ = some (n, h') from q5)
        obtain ⟨_, q7⟩ := ci_then q6
        cases hl : leftOf seen es with
        | nil => rw [hl] at q7; cases q7; exact Nat.le_refl _
        | cons e l =>
          rw [hl] at q7
          cases l with
          | nil => cases q7; exact Nat.le_refl _
          | cons _ _ => cases q7
    | _ => cases q4
  | entry it =>
    obtain ⟨xv, _, q1⟩ := ob_eq q
    obtain ⟨b, _, q2⟩ := iterOf_eq q1
    obtain ⟨o, _, q4⟩ := ob_eq q2
    cases o with
    | mapIter m since seen last =>
      obtain ⟨i, _, q5⟩ := ob_eq (show ob m (fun m => entryB h m last seen) = some (n, h') from q4)
      cases seen with
      | nil => cases q5
      | cons s seen =>
        obtain ⟨es, clock, _, q6⟩ := onMap_eq (show onMap (h.get i) _ = some (n, h') from q5)
        obtain ⟨_, q7⟩ := ci_then q6
        obtain ⟨e, _, q8⟩ := ob_eq q7
        cases q8; exact Nat.le_refl _
    | _ => cases q4
  | call c =>
    obtain ⟨callee, args, argTypes⟩ := c
    have q0 : callF ⟨callee, args, argTypes⟩ p gl tm h = some (n, h') := q
    cases callee with
    | value f =>
      obtain ⟨fv, _, q1⟩ := ob_eq q0
      obtain ⟨vs, _, q2⟩ := ob_eq q1
      obtain ⟨m, _, q3⟩ := ob_eq q2
      cases q3; exact Nat.le_refl _
    | builtin b =>
      obtain ⟨vs, _, q1⟩ := ob_eq q0
      cases b with
      | append =>
        obtain ⟨v, q2, _⟩ := retW_eq (show retW (appendA p h argTypes.toList vs) = some (n, h') from q1)
        exact append_next q2
      | copy =>
        obtain ⟨v, q2, _⟩ := retW_eq (show retW (copyA p h argTypes.toList vs) = some (n, h') from q1)
        rw [copy_next q2]; exact Nat.le_refl _
      | clear =>
        obtain ⟨v, q2, _⟩ := retW_eq (show retW (clearA p h argTypes.toList vs) = some (n, h') from q1)
        rw [clear_next q2]; exact Nat.le_refl _
      | delete =>
        have q2 : (one argTypes.toList fun t => two vs fun m k => ob (deleteA p h t m k) fun h => some (ANext.value (.tuple #[]), h)) = some (n, h') := q1
        cases hts : argTypes.toList with
        | nil => rw [hts] at q2; cases q2
        | cons t ts =>
          rw [hts] at q2
          cases vs with
          | nil => cases q2
          | cons m vs => cases vs with
            | nil => cases q2
            | cons k vs =>
              obtain ⟨h2, q3, q4⟩ := ob_eq (show ob (deleteA p h t m k) _ = some (n, h') from q2)
              cases q4
              rw [delete_next q3]; exact Nat.le_refl _
      | recover => cases q1; exact Nat.le_refl _
      | len => exact retV_next q1
      | cap => exact retV_next q1
      | min => exact retV_next q1
      | max => exact retV_next q1
      | _ => cases q1
    | invoke f name =>
      obtain ⟨fv, _, q1⟩ := ob_eq q0
      obtain ⟨vs, _, q2⟩ := ob_eq q1
      obtain ⟨m, _, q3⟩ := ob_eq q2
      cases q3; exact Nat.le_refl _
  | defer c =>
    obtain ⟨callee, args, argTypes⟩ := c
    have q0 : deferF ⟨callee, args, argTypes⟩ p gl tm h = some (n, h') := q
    cases callee with
    | value f =>
      obtain ⟨fv, _, q1⟩ := ob_eq q0
      obtain ⟨vs, _, q2⟩ := ob_eq q1
      cases fv with
      | func fn first cap => cases q2; exact Nat.le_refl _
      | _ => cases q2
    | _ => cases q0
  | panic x =>
    obtain ⟨xv, _, q1⟩ := ob_eq q
    cases xv with
    | iface t y => cases q1; exact Nat.le_refl _
    | _ => cases q1
  | move x => exact retV_next q
  | assign x => exact retV_next q
  | pick c a b => exact retV_next q
  | build t parts => exact retV_next q
  | load t a => exact retV_next q
  | nilCheck x => exact retV_next q
  | binOp op t x y ty => exact retV_next q
  | unOp op t x => exact retV_next q
  | sliceToArrayPointer arr x => exact retV_next q
  | makeInterface t x => exact retV_next q
  | makeFunc fn first cap => exact retV_next q
  | slice t x lo hi mx => exact retV_next q
  | fieldAddr t x f => exact retV_next q
  | field t x f => exact retV_next q
  | indexAddr t x i => exact retV_next q
  | index t x i => exact retV_next q
  | lookup t x i ok => exact retV_next q
  | typeAssert x xt a ok => exact retV_next q
  | extract x i => exact retV_next q
  | _ => cases q

/-! ## what an operation looks at -/
theorem evalL_congr : ∀ {l : List Operand}, (∀ x ∈ l, evalA tm' gl x = evalA tm gl x) → evalL tm' gl l = evalL tm gl l
  | [], _ => rfl
  | x :: l, hh => by
    unfold evalL
    rw [hh x (by simp), evalL_congr (fun y hy => hh y (List.mem_cons_of_mem _ hy))]
theorem evalP_congr : ∀ {l : List (Nat × Operand)}, (∀ x ∈ l.map (·.2), evalA tm' gl x = evalA tm gl x) → evalP tm' gl l = evalP tm gl l
  | [], _ => rfl
  | x :: l, hh => by
    unfold evalP
    rw [hh x.2 (by simp), evalP_congr (fun y hy => hh y (List.mem_cons_of_mem _ hy))]
theorem evalO_congr {o : Option Operand} (hh : ∀ x ∈ o.toList, evalA tm' gl x = evalA tm gl x) : evalO tm' gl o = evalO tm gl o := by
  cases o with
  | none => rfl
  | some x =>
    show ob (evalA tm' gl x) (fun v => some (some v)) = ob (evalA tm gl x) (fun v => some (some v))
    rw [hh x (by simp)]

theorem quiet_congr [Atoms] [iF : Forc] {op : Op} (hh : ∀ x ∈ op.operands.toList, evalA tm' gl x = evalA tm gl x) : quietF op p gl tm' h = quietF op p gl tm h := by
  cases op with
  | move x => exact hh x (by simp [Op.operands])
  | assign x => exact hh x (by simp [Op.operands])
  | pick c a b =>
    unfold quietF
    simp only [hh c (by simp [Op.operands]), hh a (by simp [Op.operands]), hh b (by simp [Op.operands])]
  | build t parts =>
    unfold quietF
    simp only [evalP_congr (tm := tm) (tm' := tm') (gl := gl) (l := parts.toList) (fun x hx => hh x (by simp [Op.operands] at hx ⊢; exact hx))]
  | load t a => unfold quietF; simp only [hh a (by simp [Op.operands])]
  | nilCheck x => unfold quietF; simp only [hh x (by simp [Op.operands])]
  | binOp op t x y ty => unfold quietF; simp only [hh x (by simp [Op.operands]), hh y (by simp [Op.operands])]
  | unOp op t x => unfold quietF; simp only [hh x (by simp [Op.operands])]
  | convert s d x => unfold quietF; simp only [hh x (by simp [Op.operands])]
  | sliceToArrayPointer arr x => unfold quietF; simp only [hh x (by simp [Op.operands])]
  | makeInterface t x => unfold quietF; simp only [hh x (by simp [Op.operands])]
  | makeFunc fn first cap =>
    unfold quietF
    simp only [evalL_congr (tm := tm) (tm' := tm') (gl := gl) (l := first.toList) (fun x hx => hh x (by simp [Op.operands] at hx ⊢; exact .inl hx)),
      evalL_congr (tm := tm) (tm' := tm') (gl := gl) (l := cap.toList) (fun x hx => hh x (by simp [Op.operands] at hx ⊢; exact .inr hx))]
  | slice t x lo hi mx =>
    unfold quietF
    simp only [hh x (by simp [Op.operands]), evalO_congr (tm := tm) (tm' := tm') (gl := gl) (o := lo) (fun x hx => hh x (by simp [Op.operands] at hx ⊢; simp [hx])),
      evalO_congr (tm := tm) (tm' := tm') (gl := gl) (o := hi) (fun x hx => hh x (by simp [Op.operands] at hx ⊢; simp [hx])),
      evalO_congr (tm := tm) (tm' := tm') (gl := gl) (o := mx) (fun x hx => hh x (by simp [Op.operands] at hx ⊢; simp [hx]))]
  | fieldAddr t x f => unfold quietF; simp only [hh x (by simp [Op.operands])]
  | field t x f => unfold quietF; simp only [hh x (by simp [Op.operands])]
  | indexAddr t x i => unfold quietF; simp only [hh x (by simp [Op.operands]), hh i (by simp [Op.operands])]
  | index t x i => unfold quietF; simp only [hh x (by simp [Op.operands]), hh i (by simp [Op.operands])]
  | lookup t x i ok => unfold quietF; simp only [hh x (by simp [Op.operands]), hh i (by simp [Op.operands])]
  | typeAssert x xt a ok => unfold quietF; simp only [hh x (by simp [Op.operands])]
  | extract x i => unfold quietF; simp only [hh x (by simp [Op.operands])]
  | call c =>
    obtain ⟨callee, args, argTypes⟩ := c
    cases callee with
    | builtin b =>
      unfold quietF callQ
      simp only [evalL_congr (tm := tm) (tm' := tm') (gl := gl) (l := args.toList) (fun x hx => hh x (by simp [Op.operands, Call.operands] at hx ⊢; exact hx))]
    | _ => rfl
  | _ => rfl
theorem float_congr [Atoms] [iF : Forc] {op : Op} (hk : peKind op = 2) (hh : ∀ x ∈ op.operands.toList, evalA tm' gl x = evalA tm gl x) : operF op p gl tm' h = operF op p gl tm h := by
  cases op with
  | alloc e => rfl
  | box e x => unfold operF; simp only [hh x (by simp [Op.operands])]
  | buildSlice t len parts =>
    unfold operF
    simp only [evalP_congr (tm := tm) (tm' := tm') (gl := gl) (l := parts.toList) (fun x hx => hh x (by simp [Op.operands] at hx ⊢; exact hx))]
  | call c =>
    obtain ⟨callee, args, argTypes⟩ := c
    cases callee with
    | builtin b => cases b <;> cases hk
    | _ => cases hk
  | _ => cases hk
end
end Go.Am

namespace Go.Am
open Go Go.RowKit Forc

/-! ## the orders that a region may draw -/
/-- 'L' lists all operations, each once, each behind what it waits for -/
structure Lin (ops : Array Oper) (L : List Nat) : Prop where
  all : ∀ i, i < ops.size → i ∈ L
  in_ : ∀ i ∈ L, i < ops.size
  nodup : L.Nodup
  ahead : ∀ A i B, L = A ++ i :: B → ∀ o, ops[i]? = some o → ∀ e ∈ o.after.toList, Region.binds .any e = true → e.on ∈ A

def OpsBelow (ops : Array Oper) : Prop := ∀ i o, ops[i]? = some o → ∀ e ∈ o.after.toList, Region.binds .any e = true → e.on < i

theorem ready_mem {ops : Array Oper} {listed : Array Bool} {i : Nat} : i ∈ Region.ready .any ops listed ↔ ∃ o, ops[i]? = some o ∧ listed.getD i true = false ∧
    ∀ e ∈ o.after.toList, Region.binds .any e = true → listed.getD e.on false = true := by
  unfold Region.ready
  rw [List.mem_filter, List.mem_range]
  constructor
  · rintro ⟨h1, h2⟩
    have ho : ops[i]? = some ops[i] := by simp [h1]
    refine ⟨ops[i], ho, ?_, ?_⟩
    · rw [ho] at h2
      simp only [Bool.and_eq_true, Bool.not_eq_true'] at h2
      exact h2.1
    · intro e he hb
      rw [ho] at h2
      simp only [Bool.and_eq_true, Option.map_some, Option.getD_some] at h2
      have h3 := h2.2
      rw [Array.all_eq_true_iff_forall_mem] at h3
      have := h3 e (by simpa using he)
      simpa [hb] using this
  · rintro ⟨o, ho, h1, h2⟩
    have hlt : i < ops.size := by
      rcases Nat.lt_or_ge i ops.size with h | h
      · exact h
      · simp [h] at ho
    refine ⟨hlt, ?_⟩
    rw [ho]
    simp only [h1, Bool.not_false, Bool.true_and, Option.map_some, Option.getD_some]
    rw [Array.all_eq_true_iff_forall_mem]
    intro e he
    cases hb : Region.binds .any e with
    | false => rfl
    | true => simpa using h2 e (by simpa using he) hb

/-- as far as it is listed -/
structure Part (ops : Array Oper) (listed : Array Bool) (D : List Nat) : Prop where
  size : listed.size = ops.size
  mem : ∀ i, listed.getD i false = true ↔ i ∈ D
  in_ : ∀ i ∈ D, i < ops.size
  nodup : D.Nodup

theorem getD_lt {l : Array Bool} {i : Nat} (h : i < l.size) (a b : Bool) : l.getD i a = l.getD i b := by
  simp [Array.getD, h]

theorem nodup_len : ∀ {a b : List Nat}, a.Nodup → a ⊆ b → a.length ≤ b.length
  | [], _, _, _ => by simp
  | x :: a, b, hn, hs => by
    obtain ⟨h1, h2⟩ := List.nodup_cons.1 hn
    have hx : x ∈ b := hs (by simp)
    have := nodup_len (b := b.erase x) h2 (fun y hy => (List.mem_erase_of_ne (fun e : y = x => h1 (by rw [← e]; exact hy))).2 (hs (List.mem_cons_of_mem _ hy)))
    rw [List.length_erase_of_mem hx] at this
    have hpos : 0 < b.length := List.length_pos_of_mem hx
    simp only [List.length_cons]; omega

theorem go_lin [Atoms] {ops : Array Oper} (hB : OpsBelow ops) : ∀ (fuel t : Nat) (listed : Array Bool) (D : List Nat), Part ops listed D → ops.size ≤ D.length + fuel →
    ∃ L, Region.linearise.go .any ops fuel t listed [] = L ∧ (∀ i, i < ops.size → i ∈ D ∨ i ∈ L) ∧ (∀ i ∈ L, i < ops.size) ∧ (∀ i ∈ L, i ∉ D) ∧ L.Nodup ∧
    (∀ A i B, L = A ++ i :: B → ∀ o, ops[i]? = some o → ∀ e ∈ o.after.toList, Region.binds .any e = true → e.on ∈ D ∨ e.on ∈ A)
  | 0, t, listed, D, hp, hf => by
    refine ⟨[], rfl, ?_, by simp, by simp, by simp, by intro A i B h; simp at h⟩
    intro i hi
    refine .inl ?_
    -- all are listed
    have hsub : D ⊆ List.range ops.size := fun x hx => List.mem_range.2 (hp.in_ x hx)
    have hperm : (List.range ops.size) ⊆ D := by
      have h1 : (List.range ops.size).length ≤ D.length := by simpa using hf
      intro x hx
      rcases Classical.em (x ∈ D) with h | h
      · exact h
      · exfalso
        have hsub2 : (x :: D) ⊆ List.range ops.size := by
          intro y hy
          rcases List.mem_cons.1 hy with rfl | hy
          · exact hx
          · exact hsub hy
        have hn : (x :: D).Nodup := List.nodup_cons.2 ⟨h, hp.nodup⟩
        have := nodup_len hn hsub2
        simp only [List.length_cons, List.length_range] at this
        omega
    exact hperm (List.mem_range.2 hi)
  | fuel + 1, t, listed, D, hp, hf => by
    rw [Region.linearise.go]
    change ∃ L, (match (Region.ready .any ops listed)[t % (Region.ready .any ops listed).length]? with
      | some i => Region.linearise.go .any ops fuel (t / (Region.ready .any ops listed).length) (listed.setIfInBounds i true) [i]
      | none => [].reverse) = L ∧ _
    cases hi : (Region.ready .any ops listed)[t % (Region.ready .any ops listed).length]? with
    | none =>
      have hnil : Region.ready .any ops listed = [] := by
        cases hr : Region.ready .any ops listed with
        | nil => rfl
        | cons x xs =>
          rw [hr] at hi
          have hlt : t % (x :: xs).length < (x :: xs).length := Nat.mod_lt _ (by simp)
          simp at hi
          simp at hlt
          omega
      refine ⟨[], rfl, ?_, by simp, by simp, by simp, by intro A i B h; simp at h⟩
      -- the least that is not listed would be ready
      intro i hi
      refine .inl ?_
      have key : ∀ n, ∀ i, i < n → i < ops.size → i ∈ D := by
        intro n
        induction n with
        | zero => intro i h; omega
        | succ n ih =>
          intro i h hs
          rcases Classical.em (i ∈ D) with hd | hd
          · exact hd
          · exfalso
            have : i ∈ Region.ready .any ops listed := by
              refine ready_mem.2 ⟨ops[i], by simp [hs], ?_, ?_⟩
              · rw [getD_lt (by rw [hp.size]; exact hs) true false]
                cases hq : listed.getD i false with
                | false => rfl
                | true => exact absurd ((hp.mem i).1 hq) hd
              · intro e he hb
                have hlt := hB i ops[i] (by simp [hs]) e he hb
                exact (hp.mem _).2 (ih e.on (by omega) (by omega))
            rw [hnil] at this; cases this
      exact key (i + 1) i (by omega) hi
    | some i =>
      have hmem : i ∈ Region.ready .any ops listed := List.mem_of_getElem? hi
      obtain ⟨o, ho, h1, h2⟩ := ready_mem.1 hmem
      have hs : i < ops.size := by
        rcases Nat.lt_or_ge i ops.size with h | h
        · exact h
        · simp [h] at ho
      have hnd : i ∉ D := by
        intro hd
        have := (hp.mem i).2 hd
        rw [getD_lt (by rw [hp.size]; exact hs) false true, h1] at this
        cases this
      have hp' : Part ops (listed.setIfInBounds i true) (i :: D) := by
        refine ⟨by simpa using hp.size, ?_, ?_, List.nodup_cons.2 ⟨hnd, hp.nodup⟩⟩
        · intro j
          rw [List.mem_cons, ← hp.mem j]
          simp only [Array.getD_eq_getD_getElem?, Array.getElem?_setIfInBounds]
          by_cases e : i = j
          · subst e; simp [hp.size, hs]
          · have e2 : ¬ j = i := fun h => e h.symm
            simp [e, e2]
        · intro j hj
          rcases List.mem_cons.1 hj with rfl | hj
          · exact hs
          · exact hp.in_ j hj
      obtain ⟨L, g1, g2, g3, g4, g5, g6⟩ := go_lin hB fuel (t / (Region.ready .any ops listed).length) _ (i :: D) hp' (by simp only [List.length_cons]; omega)
      refine ⟨i :: L, ?_, ?_, ?_, ?_, ?_, ?_⟩
      · simp only []
        rw [linearise_go_acc, List.reverse_singleton, List.singleton_append, g1]
      · intro j hj
        rcases g2 j hj with h | h
        · rcases List.mem_cons.1 h with rfl | h
          · exact .inr (by simp)
          · exact .inl h
        · exact .inr (List.mem_cons_of_mem _ h)
      · intro j hj
        rcases List.mem_cons.1 hj with rfl | hj
        · exact hs
        · exact g3 j hj
      · intro j hj
        rcases List.mem_cons.1 hj with rfl | hj
        · exact hnd
        · exact fun h => g4 j hj (List.mem_cons_of_mem _ h)
      · refine List.nodup_cons.2 ⟨fun h => g4 i h (by simp), g5⟩
      · intro A j B hL o' ho' e he hb
        cases A with
        | nil =>
          simp only [List.nil_append, List.cons.injEq] at hL
          obtain ⟨e1, e2⟩ := hL
          subst e1
          rw [ho] at ho'; cases ho'
          exact .inl ((hp.mem _).1 (h2 e he hb))
        | cons a A =>
          simp only [List.cons_append, List.cons.injEq] at hL
          obtain ⟨e1, e2⟩ := hL
          subst e1
          rcases g6 A j B e2 o' ho' e he hb with h | h
          · rcases List.mem_cons.1 h with h | h
            · exact .inr (by simp [h])
            · exact .inl h
          · exact .inr (List.mem_cons_of_mem _ h)

theorem lin_of [Atoms] {ops : Array Oper} (hB : OpsBelow ops) (t : Nat) : Lin ops (Region.schedule true ops t) := by
  have hp : Part ops (Array.replicate ops.size false) [] := by
    refine ⟨by simp, ?_, by simp, by simp⟩
    intro i
    simp only [Array.getD_eq_getD_getElem?, Array.getElem?_replicate, List.not_mem_nil, iff_false]
    by_cases h : i < ops.size <;> simp [h]
  obtain ⟨L, g1, g2, g3, g4, g5, g6⟩ := go_lin hB ops.size t _ [] hp (by simp)
  have e : Region.schedule true ops t = L := by
    unfold Region.schedule
    simp only [Bool.true_or, if_true]
    exact g1
  rw [e]
  refine ⟨?_, g3, g5, ?_⟩
  · intro i hi
    rcases g2 i hi with h | h
    · cases h
    · exact h
  · intro A i B hL o ho e he hb
    rcases g6 A i B hL o ho e he hb with h | h
    · cases h
    · exact h
end Go.Am

namespace Go.Am
open Go Go.RowKit Forc

/-! ## plans -/
theorem binds_any (e : Edge) : bindsAny e = Region.binds .any e := by
  cases e with
  | mk on ground => cases ground <;> rfl
theorem mem_preds [Atoms] {o : Oper} {j : Nat} : j ∈ predsOf o ↔ ∃ e ∈ o.after.toList, Region.binds .any e = true ∧ e.on = j := by
  unfold predsOf
  rw [List.mem_map]
  constructor
  · rintro ⟨e, he, rfl⟩
    rw [List.mem_filter] at he
    exact ⟨e, he.1, by rw [← binds_any]; exact he.2, rfl⟩
  · rintro ⟨e, he, hb, rfl⟩
    exact ⟨e, List.mem_filter.2 ⟨he, by rw [binds_any]; exact hb⟩, rfl⟩

/-- what must be ahead of something, and what must be ahead of that -/
inductive Anc (ops : Array Oper) : Nat → Nat → Prop where
  | base {i : Nat} {o : Oper} {e : Edge} (ho : ops[i]? = some o) (he : e ∈ o.after.toList) (hb : Region.binds .any e = true) : Anc ops i e.on
  | step {i j k : Nat} (h1 : Anc ops i j) (h2 : Anc ops j k) : Anc ops i k
theorem Lin.anc {ops : Array Oper} {L : List Nat} (hL : Lin ops L) {i j : Nat} (h : Anc ops i j) : ∀ {A B : List Nat}, L = A ++ i :: B → j ∈ A := by
  induction h with
  | base ho he hb => intro A B e; exact hL.ahead A _ B e _ ho _ he hb
  | step _ _ ih1 ih2 =>
    intro A B e
    obtain ⟨A1, A2, e1⟩ := List.append_of_mem (ih1 e)
    subst e1
    rw [List.append_assoc, List.cons_append] at e
    exact List.mem_append_left _ (ih2 e)

theorem addN_mem [Atoms] {x : Nat} : ∀ {js l : List Nat}, x ∈ addN l js ↔ x ∈ l ∨ x ∈ js
  | [], l => by simp [addN]
  | j :: js, l => by
    unfold addN
    cases hm : memN j l with
    | true =>
      rw [ci_true, addN_mem, List.mem_cons]
      constructor
      · rintro (h | h); exact .inl h; exact .inr (.inr h)
      · rintro (h | h | h)
        · exact .inl h
        · subst h; exact .inl (memN_iff.1 hm)
        · exact .inr h
    | false =>
      rw [ci_false, addN_mem, List.mem_cons, List.mem_cons]
      constructor
      · rintro ((h | h) | h)
        · exact .inr (.inl h)
        · exact .inl h
        · exact .inr (.inr h)
      · rintro (h | h | h)
        · exact .inl (.inr h)
        · exact .inl (.inl h)
        · exact .inr h
theorem predsIn_mem [Atoms] {j x : Nat} : ∀ {acc : List PE}, x ∈ predsIn j acc → ∃ e ∈ acc, e.idx = j ∧ x ∈ e.preds
  | [], h => by cases h
  | e :: acc, h => by
    unfold predsIn at h
    cases hb : Nat.beq e.idx j with
    | true => rw [hb, ci_true] at h; exact ⟨e, by simp, nbeq.1 hb, h⟩
    | false =>
      rw [hb, ci_false] at h
      obtain ⟨f, h1, h2⟩ := predsIn_mem h
      exact ⟨f, List.mem_cons_of_mem _ h1, h2⟩
theorem closeP_mem [Atoms] {acc : List PE} {x : Nat} : ∀ {js out : List Nat}, x ∈ closeP acc js out → x ∈ out ∨ ∃ j ∈ js, x = j ∨ x ∈ predsIn j acc
  | [], _, h => .inl h
  | j :: js, out, h => by
    rcases closeP_mem (js := js) h with h1 | ⟨k, h1, h2⟩
    · rcases addN_mem.1 h1 with h2 | h2
      · exact .inl h2
      · rcases List.mem_cons.1 h2 with h3 | h3
        · exact .inr ⟨j, by simp, .inl h3⟩
        · exact .inr ⟨j, by simp, .inr h3⟩
    · exact .inr ⟨k, List.mem_cons_of_mem _ h1, h2⟩
theorem closeP_out [Atoms] {acc : List PE} {x : Nat} : ∀ {js out : List Nat}, x ∈ out → x ∈ closeP acc js out
  | [], _, h => h
  | _ :: js, _, h => closeP_out (js := js) (addN_mem.2 (.inl h))
theorem closeP_in [Atoms] {acc : List PE} {x : Nat} : ∀ {js out : List Nat}, x ∈ js → x ∈ closeP acc js out
  | [], _, h => by cases h
  | j :: js, out, h => by
    rcases List.mem_cons.1 h with h1 | h1
    · subst h1; exact closeP_out (js := js) (addN_mem.2 (.inr (by simp)))
    · exact closeP_in (js := js) h1

theorem peOf_mem [Atoms] : ∀ {l : List Oper} {acc : List PE} {i : Nat} {e : PE}, e ∈ peOf acc i l → i ≤ e.idx ∧ l[e.idx - i]? = some e.op ∧ e.kind = peKind e.op.op ∧ (∀ j ∈ predsOf e.op, j ∈ e.preds)
  | [], _, _, _, h => by cases h
  | o :: l, acc, i, e, h => by
    rcases List.mem_cons.1 h with e1 | h
    · subst e1
      exact ⟨Nat.le_refl _, by simp, rfl, fun j hj => closeP_in hj⟩
    · obtain ⟨h1, h2, h3, h4⟩ := peOf_mem h
      have h1 : i + 1 ≤ e.idx := h1
      refine ⟨by omega, ?_, h3, h4⟩
      have : e.idx - i = (e.idx - (i + 1)) + 1 := by omega
      rw [this]; simpa using h2
theorem peOf_anc [Atoms] {ops : Array Oper} : ∀ {l : List Oper} {acc : List PE} {i : Nat}, ops.toList.drop i = l → (∀ e ∈ acc, ∀ j ∈ e.preds, Anc ops e.idx j) → ∀ e ∈ peOf acc i l, ∀ j ∈ e.preds, Anc ops e.idx j
  | [], _, _, _, _, _, h => by cases h
  | o :: l, acc, i, hd, ha, e, h => by
    have ho : ops[i]? = some o := by
      have : (ops.toList.drop i)[0]? = some o := by rw [hd]; rfl
      rw [List.getElem?_drop, Array.getElem?_toList] at this
      simpa using this
    have hd' : ops.toList.drop (i + 1) = l := by
      have : ops.toList.drop (i + 1) = (ops.toList.drop i).drop 1 := by rw [List.drop_drop]
      rw [this, hd]; rfl
    have hnew : ∀ j ∈ closeP acc (predsOf o) [], Anc ops i j := by
      intro j hj
      have direct : ∀ k ∈ predsOf o, Anc ops i k := by
        intro k hk
        obtain ⟨ed, h1, h2, h3⟩ := mem_preds.1 hk
        subst h3
        exact .base ho h1 h2
      rcases closeP_mem hj with h1 | ⟨k, h1, h2⟩
      · cases h1
      · rcases h2 with h2 | h2
        · subst h2; exact direct _ h1
        · obtain ⟨f, g1, g2, g3⟩ := predsIn_mem h2
          subst g2
          exact .step (direct _ h1) (ha f g1 j g3)
    rcases List.mem_cons.1 h with e1 | h
    · subst e1; exact hnew
    · refine peOf_anc (l := l) (i := i + 1) hd' ?_ e h
      intro f hf
      rcases List.mem_cons.1 hf with e2 | hf
      · subst e2; exact hnew
      · exact ha f hf
theorem peOf_cover : ∀ {l : List Oper} {acc : List PE} {i k : Nat}, k < l.length → ∃ e ∈ peOf acc i l, e.idx = i + k
  | [], _, _, _, h => by simp at h
  | o :: l, acc, i, 0, _ => ⟨{ idx := i, op := o, kind := peKind o.op, preds := closeP acc (predsOf o) [] }, by simp [peOf], rfl⟩
  | o :: l, acc, i, k + 1, h => by
    obtain ⟨e, h1, h2⟩ := peOf_cover (l := l) (acc := { idx := i, op := o, kind := peKind o.op, preds := closeP acc (predsOf o) [] } :: acc) (i := i + 1) (k := k) (by simpa using h)
    exact ⟨e, List.mem_cons_of_mem _ h1, by omega⟩
theorem peOf_nodup [Atoms] : ∀ {l : List Oper} {acc : List PE} {i : Nat}, ((peOf acc i l).map (·.idx)).Nodup
  | [], _, _ => by simp [peOf]
  | o :: l, acc, i => by
    simp only [peOf, List.map_cons]
    refine List.nodup_cons.2 ⟨?_, peOf_nodup⟩
    intro h
    obtain ⟨e, he, h2⟩ := List.mem_map.1 h
    have : i + 1 ≤ e.idx := (peOf_mem he).1
    omega

theorem pick_perm {want : PE → Bool} {left : List PE} : ∀ {l : List PE} {e : PE} {r : List PE}, pick want left l = some (e, r) → l.Perm (e :: r)
  | [], _, _, h => by cases h
  | x :: l, e, r, h => by
    rcases ci_some (show ci (want x && freeOf left x.preds) (some (x, l)) (op2 (pick want left l) fun y r => some (y, x :: r)) = some (e, r) from h) with ⟨_, h1⟩ | ⟨_, h1⟩
    · cases h1; exact List.Perm.refl _
    · obtain ⟨y, q, h2, h3⟩ := op2_eq h1
      cases h3
      exact ((pick_perm h2).cons x).trans (List.Perm.swap _ _ _)
theorem order_perm [Atoms] : ∀ {f : Nat} {left l : List PE}, order f left = some l → left.Perm l
  | 0, left, l, h => by
    cases left with
    | nil => cases h; exact List.Perm.refl _
    | cons _ _ => cases h
  | f + 1, left, l, h => by
    cases left with
    | nil => cases h; exact List.Perm.refl _
    | cons a left =>
      obtain ⟨e, r, h1, h2⟩ := op2_eq (show op2 (orElseO (pick (fun e => not (Nat.beq e.kind 1)) (a :: left) (a :: left)) (pick (fun e => Nat.beq e.kind 1) (a :: left) (a :: left))) (fun e r =>
        ob (order f r) fun l => some (e :: l)) = some l from h)
      obtain ⟨q, h3, h4⟩ := ob_eq h2
      cases h4
      have hp : (a :: left).Perm (e :: r) := by
        unfold orElseO at h1
        cases hq : pick (fun e => not (Nat.beq e.kind 1)) (a :: left) (a :: left) with
        | some x => rw [hq] at h1; cases h1; exact pick_perm hq
        | none => rw [hq] at h1; exact pick_perm h1
      exact hp.trans ((order_perm h3).cons e)

structure Plan (ops : Array Oper) (l : List PE) : Prop where
  perm : l.Perm (peOf [] 0 ops.toList)
  ok : planOk ops.toList l = true

theorem allBelow_spec [Atoms] {n : Nat} : ∀ {l : List Nat}, allBelow n l = true → ∀ j ∈ l, j < n
  | [], _, _, h => by cases h
  | i :: l, h, j, hj => by
    simp only [allBelow, Bool.and_eq_true, nblt] at h
    rcases List.mem_cons.1 hj with rfl | hj
    · exact h.1
    · exact allBelow_spec h.2 j hj
theorem predsOk_spec [Atoms] : ∀ {l : List PE}, predsOk l = true → ∀ e ∈ l, ∀ j ∈ e.preds, j < e.idx
  | [], _, _, h => by cases h
  | x :: l, h, e, he => by
    simp only [predsOk, Bool.and_eq_true] at h
    rcases List.mem_cons.1 he with rfl | he
    · exact allBelow_spec h.1
    · exact predsOk_spec h.2 e he

theorem drawPlan_spec [Atoms] {ops : Array Oper} {l : List PE} (h : drawPlan ops.toList = some l) : Plan ops l ∧ OpsBelow ops := by
  obtain ⟨h1, h2⟩ := ci_then h
  obtain ⟨q, h3, h4⟩ := ob_eq h2
  obtain ⟨h5, h6⟩ := ci_then h4
  cases h6
  refine ⟨⟨(order_perm h3).symm, h5⟩, ?_⟩
  intro i o ho e he hb
  have hi : i < ops.toList.length := by
    rcases Nat.lt_or_ge i ops.size with h | h
    · simpa using h
    · simp [h] at ho
  obtain ⟨x, hx, hxi⟩ := peOf_cover (l := ops.toList) (acc := []) (i := 0) hi
  obtain ⟨_, g2, _, g4⟩ := peOf_mem hx
  have hxi : x.idx = i := by omega
  have : x.op = o := by
    rw [hxi] at g2
    simp only [Nat.sub_zero] at g2
    rw [Array.getElem?_toList, ho] at g2
    exact (Option.some.inj g2).symm
  have := predsOk_spec h1 x hx e.on (g4 _ (by rw [this]; exact mem_preds.2 ⟨e, he, hb, rfl⟩))
  omega

section
variable {ops : Array Oper} {l : List PE} (hp : Plan ops l)
include hp
theorem Plan.entry [Atoms] {e : PE} (he : e ∈ l) : ops[e.idx]? = some e.op ∧ e.kind = peKind e.op.op ∧ (∀ j ∈ e.preds, Anc ops e.idx j) := by
  obtain ⟨_, h2, h3, h4⟩ := peOf_mem (hp.perm.mem_iff.1 he)
  refine ⟨?_, h3, peOf_anc (l := ops.toList) (acc := []) (i := 0) rfl (by intro e h; cases h) e (hp.perm.mem_iff.1 he)⟩
  rw [← Array.getElem?_toList]; simpa using h2
theorem Plan.nodup [Atoms] : (l.map (·.idx)).Nodup := (hp.perm.map _).nodup_iff.2 peOf_nodup
theorem Plan.cover [Atoms] {i : Nat} (hi : i < ops.size) : ∃ e ∈ l, e.idx = i := by
  obtain ⟨e, he, h2⟩ := peOf_cover (l := ops.toList) (acc := []) (i := 0) (k := i) (by simpa using hi)
  exact ⟨e, hp.perm.mem_iff.2 he, by omega⟩
theorem Plan.inj [Atoms] {e f : PE} (he : e ∈ l) (hf : f ∈ l) (h : e.idx = f.idx) : e = f := by
  have key : ∀ {l : List PE}, (l.map (·.idx)).Nodup → ∀ {e f : PE}, e ∈ l → f ∈ l → e.idx = f.idx → e = f := by
    intro l
    induction l with
    | nil => intro _ e f he; cases he
    | cons x l ih =>
      intro hn e f he hf h
      simp only [List.map_cons] at hn
      obtain ⟨h1, h2⟩ := List.nodup_cons.1 hn
      rcases List.mem_cons.1 he with e1 | he
      · rcases List.mem_cons.1 hf with e2 | hf
        · rw [e1, e2]
        · exact absurd (List.mem_map.2 ⟨f, hf, by rw [← h, e1]⟩) h1
      · rcases List.mem_cons.1 hf with e2 | hf
        · exact absurd (List.mem_map.2 ⟨e, he, by rw [h, e2]⟩) h1
        · exact ih h2 he hf h
  exact key hp.nodup he hf h

theorem Plan.self [Atoms] {e : PE} (he : e ∈ l) : e.kind = 1 ∨ dstIn e.op.dst (readsOf ops.toList e.op) = false := by
  have key : ∀ {l : List PE}, planOk ops.toList l = true → e ∈ l → selfOk ops.toList e = true := by
    intro l
    induction l with
    | nil => intro _ h; cases h
    | cons x l ih =>
      intro h he
      simp only [planOk, Bool.and_eq_true] at h
      rcases List.mem_cons.1 he with rfl | he
      · exact h.1.1.1
      · exact ih h.2 he
  have := key hp.ok he
  unfold selfOk at this
  simp only [Bool.or_eq_true, nbeq, Bool.not_eq_true'] at this
  exact this
theorem Plan.pair {A B : List PE} {x y : PE} (e : l = A ++ x :: B) (hy : y ∈ B) : pairOk ops.toList x y = true := by
  have h1 : ∀ {B : List PE}, pairsOk ops.toList x B = true → y ∈ B → pairOk ops.toList x y = true := by
    intro B
    induction B with
    | nil => intro _ h; cases h
    | cons z B ih =>
      intro h hy
      simp only [pairsOk, Bool.and_eq_true] at h
      rcases List.mem_cons.1 hy with rfl | hy
      · exact h.1
      · exact ih h.2 hy
  have h2 : ∀ {A l : List PE}, planOk ops.toList l = true → l = A ++ x :: B → pairsOk ops.toList x B = true := by
    intro A
    induction A with
    | nil =>
      intro l h e
      subst e
      simp only [List.nil_append, planOk, Bool.and_eq_true] at h
      exact h.1.1.2
    | cons a A ih =>
      intro l h e
      subst e
      simp only [List.cons_append, planOk, Bool.and_eq_true] at h
      exact ih h.2 rfl
  exact h1 (h2 hp.ok e) hy
theorem Plan.first {A B : List PE} {x : PE} (e : l = A ++ x :: B) (hk : x.kind = 1) : s1 (x :: B) B = true := by
  have h2 : ∀ {A l : List PE}, planOk ops.toList l = true → l = A ++ x :: B → s1 (x :: B) B = true := by
    intro A
    induction A with
    | nil =>
      intro l h e
      subst e
      simp only [List.nil_append, planOk, Bool.and_eq_true] at h
      have := h.1.2
      rw [hk] at this
      exact this
    | cons a A ih =>
      intro l h e
      subst e
      simp only [List.cons_append, planOk, Bool.and_eq_true] at h
      exact ih h.2 rfl
  exact h2 hp.ok e
end

theorem hasIdx_iff [Atoms] {i : Nat} : ∀ {l : List PE}, hasIdx i l = true ↔ ∃ e ∈ l, e.idx = i
  | [] => by simp [hasIdx]
  | x :: l => by
    unfold hasIdx
    cases hb : Nat.beq x.idx i with
    | true => have := nbeq.1 hb; simp [this]
    | false => have := nbeq_f.1 hb; simp only [ci_false]; rw [hasIdx_iff]; simp [this]
theorem anyHas_iff [Atoms] {l : List PE} : ∀ {js : List Nat}, anyHas l js = true ↔ ∃ j ∈ js, ∃ e ∈ l, e.idx = j
  | [] => by simp [anyHas]
  | j :: js => by
    unfold anyHas
    cases hb : hasIdx j l with
    | true => simp only [ci_true, true_iff]; exact ⟨j, by simp, hasIdx_iff.1 hb⟩
    | false =>
      simp only [ci_false]
      rw [anyHas_iff]
      constructor
      · rintro ⟨k, h1, h2⟩; exact ⟨k, List.mem_cons_of_mem _ h1, h2⟩
      · rintro ⟨k, h1, h2⟩
        rcases List.mem_cons.1 h1 with rfl | h1
        · rw [hasIdx_iff.2 h2] at hb; cases hb
        · exact ⟨k, h1, h2⟩
theorem s1_spec [Atoms] {tail : List PE} : ∀ {l : List PE}, s1 tail l = true → ∀ y ∈ l, ∃ j ∈ y.preds, ∃ e ∈ tail, e.idx = j
  | [], _, _, h => by cases h
  | x :: l, h, y, hy => by
    simp only [s1, Bool.and_eq_true] at h
    rcases List.mem_cons.1 hy with rfl | hy
    · exact anyHas_iff.1 h.1
    · exact s1_spec h.2 y hy

theorem dstIn_iff [Atoms] {d : Option Nat} {l : List Nat} : dstIn d l = true ↔ ∃ t, d = some t ∧ t ∈ l := by
  cases d with
  | none => simp [dstIn]
  | some t => simp only [dstIn, memN_iff]; simp
theorem sameDst_iff {a b : Option Nat} : sameDst a b = true ↔ ∃ t, a = some t ∧ b = some t := by
  cases a <;> cases b <;> simp [sameDst]
  exact eq_comm
end Go.Am

namespace Go.Am
open Go Go.RowKit Forc

/-! ## values, held against each other -/
theorem fnEq_eq [Atoms] {a b : Fn} (e : fnEq a b = true) : a = b := by
  cases a <;> cases b <;> simp only [fnEq] at e <;> first | (cases e; done) | (have := nbeq.1 e; subst this; rfl)
theorem addrEq_eq [Atoms] {a b : Addr} (e : addrEq a b = true) : a = b := by
  obtain ⟨x, o, s⟩ := a; obtain ⟨y, q, t⟩ := b
  simp only [addrEq, Bool.and_eq_true, nbeq] at e
  obtain ⟨⟨⟨h1, h2⟩, h3⟩, h4⟩ := e
  subst h1; subst h2
  cases s <;> simp at h3
  cases t <;> simp at h4
  rfl
theorem fkEq_eq {a b : FloatKind} (h : fkEq a b = true) : a = b := by
  cases a <;> cases b <;> first | rfl | cases h
theorem optEq_eq {α : Type} {eq : α → α → Bool} (hh : ∀ {x y}, eq x y = true → x = y) {a b : Option α} (e : optEq eq a b = true) : a = b := by
  cases a <;> cases b <;> simp only [optEq] at e <;> first | rfl | (cases e; done) | (rw [hh e])
mutual
theorem veq_eq : ∀ (f : Nat) {v w : Value}, veqF f v w = true → v = w
  | 0, _, _, e => by simp [veqF] at e
  | f + 1, v, w, e => by
    cases v <;> cases w <;> simp only [veqF] at e <;> try (cases e; done)
    · rw [bEq_eq] at e; rw [beq_iff_eq] at e; rw [e]
    · simp only [Bool.and_eq_true] at e
      have h1 := kEq_eq e.1
      have h2 := e.2
      rw [eqI_eq, beq_iff_eq] at h2
      rw [h1, h2]
    · simp only [Bool.and_eq_true, nbeq] at e
      rw [fkEq_eq e.1, e.2]
    · rw [eqB_eq, beq_iff_eq] at e
      congr 1
      apply ByteArray.ext
      apply Array.ext'
      exact e
    · rw [optEq_eq addrEq_eq e]
    · simp only [Bool.and_eq_true, nbeq] at e
      rw [optEq_eq addrEq_eq e.1.1, e.1.2, e.2]
    · rw [optEq_eq (fun h => nbeq.1 h) e]
    · rw [optEq_eq (fun h => nbeq.1 h) e]
    · simp only [Bool.and_eq_true] at e
      rw [fnEq_eq e.1.1, Array.ext' (veqs_eq f e.1.2), Array.ext' (veqs_eq f e.2)]
    · rfl
    · simp only [Bool.and_eq_true, nbeq] at e
      rw [e.1, veq_eq f e.2]
    · rfl
    · rw [Array.ext' (veqs_eq f e)]
    · rw [Array.ext' (veqs_eq f e)]
theorem veqs_eq : ∀ (f : Nat) {v w : List Value}, veqF.all f v w = true → v = w
  | _, [], [], _ => rfl
  | _, [], _ :: _, e => by simp [veqF.all] at e
  | _, _ :: _, [], e => by simp [veqF.all] at e
  | f, a :: x, b :: y, e => by
    simp only [veqF.all, Bool.and_eq_true] at e
    rw [veq_eq f e.1, veqs_eq f e.2]
end

/-! ## guards -/
section
variable {r : Rho} {P : Program} {ops : Array Oper} {tm : T Value} {ct : Array Value} {nt : Nat} {pend : Nat → Prop}

theorem bool_back [Atoms] {v : Value} {b : Bool} (h : cv r v = some (.bool b)) : v = .bool b := by
  cases v with
  | bool c => simp [cv] at h; rw [h]
  | pointer a =>
    cases a with
    | none => simp [cv] at h
    | some a => simp only [cv] at h; split at h <;> cases h
  | slice a l c =>
    cases a with
    | none => simp [cv] at h
    | some a =>
      simp only [cv, cslice] at h
      repeat' split at h
      all_goals cases h
  | map a =>
    cases a with
    | none => simp [cv] at h
    | some a => simp only [cv] at h; split at h <;> cases h
  | chan a => cases a with
    | none => simp [cv] at h
    | some a => exact absurd rfl (Atoms.noBool a _ _ (by simpa [cv] using h))
  | func f a b => obtain ⟨a⟩ := a; obtain ⟨b⟩ := b; simp only [cv] at h; split at h <;> cases h
  | iface t x => simp only [cv] at h; split at h <;> cases h
  | agg l => obtain ⟨l⟩ := l; simp only [cv] at h; split at h <;> cases h
  | tuple l => obtain ⟨l⟩ := l; simp only [cv] at h; split at h <;> cases h
  | _ => simp [cv] at h

theorem isB_eq [Atoms] {b : Bool} {v v' : Value} (h : cv r v = some v') : isB b v = ((match (generalizing := false) v' with | .bool c => some c | _ => none) == some b) := by
  cases v' with
  | bool c =>
    have := bool_back h; subst this
    simp only [isB, bEq_eq]
    cases b <;> cases c <;> rfl
  | _ =>
    cases v with
    | bool c => simp [cv] at h
    | _ => rfl

theorem wanted_of [Atoms] (htr : TR r pend nt tm ct) {o : Oper} {b : Bool} (hg : ∀ j w g d, o.guard = some (j, w) → ops[j]? = some g → g.dst = some d → ¬ pend d) (e : wantedA ops tm o = some b) :
    Region.wanted o (yielded ops ct) = b := by
  unfold wantedA at e
  unfold Region.wanted
  cases hq : o.guard with
  | none => rw [hq] at e; cases e; rfl
  | some q =>
    rw [hq] at e
    obtain ⟨g, h1, e1⟩ := ob_eq (show ob (nth ops.toList q.1) _ = some b from e)
    obtain ⟨d, h2, e2⟩ := ob_eq e1
    obtain ⟨v, h3, e3⟩ := ob_eq e2
    cases e3
    rw [nth_eq, Array.getElem?_toList] at h1
    obtain ⟨v', h4, h5⟩ := htr.2 d v (hg q.1 q.2 g d hq h1 h2) h3
    show (yielded ops ct q.1 == some q.2) = isB q.2 v
    rw [isB_eq h4]
    unfold yielded
    rw [h1]
    simp only [Option.bind_some, h2, h5]
    cases v' <;> rfl

theorem wanted_congr {tm' : T Value} {o : Oper} (hg : ∀ j w g d, o.guard = some (j, w) → ops[j]? = some g → g.dst = some d → tm'.get d = tm.get d) : wantedA ops tm' o = wantedA ops tm o := by
  unfold wantedA
  cases hq : o.guard with
  | none => rfl
  | some q =>
    simp only
    rw [nth_eq, Array.getElem?_toList]
    cases h1 : ops[q.1]? with
    | none => rfl
    | some g =>
      simp only [ob_some]
      cases h2 : g.dst with
      | none => rfl
      | some d => simp only [ob_some]; rw [hg q.1 q.2 g d hq h1 h2]

/-- what an operation reads -/
theorem reads_op {o : Oper} {t : Nat} (h : Operand.tmp t ∈ o.op.operands.toList) : t ∈ readsOf ops.toList o := by
  unfold readsOf
  refine List.mem_append_left _ ?_
  have : ∀ {l : List Operand}, Operand.tmp t ∈ l → t ∈ tmpsOf l := by
    intro l
    induction l with
    | nil => intro h; cases h
    | cons x l ih =>
      intro h
      rcases List.mem_cons.1 h with e | h2
      · subst e; simp [tmpsOf]
      · unfold tmpsOf
        cases x <;> first | exact ih h2 | exact List.mem_cons_of_mem _ (ih h2)
  exact this h
theorem reads_guard {o g : Oper} {j d : Nat} {w : Bool} (hq : o.guard = some (j, w)) (h1 : ops[j]? = some g) (h2 : g.dst = some d) : d ∈ readsOf ops.toList o := by
  unfold readsOf
  refine List.mem_append_right _ ?_
  unfold guardDst
  rw [hq]
  simp only
  rw [nth_eq, Array.getElem?_toList, h1]
  simp only [ob_some, h2, od]
  exact List.mem_singleton.2 rfl
end

/-! ## what is still to do -/
def itemC : AItem → Option Item
  | .code c => some (.code c)
  | .inBlock id => some (.inBlock id)
  | .inLoop b => some (.inLoop b)
  | .inScope b => some (.inScope b)
  | .beginRound => some .beginRound
  | _ => none
def plainC : List AItem → Option (List Item)
  | [] => some []
  | i :: k => match itemC i, plainC k with
    | some ci, some ck => some (ci :: ck)
    | _, _ => none
theorem plain_cons {i : AItem} {k : List AItem} {cl : List Item} (h : plainC (i :: k) = some cl) : ∃ c ck, itemC i = some c ∧ plainC k = some ck ∧ cl = c :: ck := by
  simp only [plainC] at h
  split at h
  · rename_i c ck h1 h2; cases h; exact ⟨c, ck, h1, h2, rfl⟩
  · cases h
theorem plain_mk {i : AItem} {k : List AItem} {c : Item} {ck : List Item} (h1 : itemC i = some c) (h2 : plainC k = some ck) : plainC (i :: k) = some (c :: ck) := by
  simp only [plainC, h1, h2]
theorem label_of [Atoms] (l : Nat) : ∀ (c : Code), labelA l c = findLabel c l
  | .seq a b => by
    unfold labelA findLabel
    rw [label_of l a, label_of l b]
    cases findLabel a l <;> rfl
  | .label l' => by
    unfold labelA findLabel
    cases hb : Nat.beq l' l with
    | true => have := nbeq.1 hb; subst this; simp [ci_true]
    | false => have := nbeq_f.1 hb; rw [ci_false, if_neg (by simpa using this)]
  | .skip => rfl
  | .region _ _ _ => rfl
  | .cond _ _ _ => rfl
  | .block _ _ => rfl
  | .loop _ => rfl
  | .scope _ => rfl
  | .exit _ => rfl
  | .goto _ => rfl
  | .ret => rfl
  | .rangeFunc _ _ _ _ => rfl
  | .refuse _ => rfl
theorem gotoIn_of [Atoms] {l : Nat} : ∀ {k : List AItem} {ck : List Item}, plainC k = some ck →
    (∃ k' ck', gotoA l k = some k' ∧ gotoIn l ck = some ck' ∧ plainC k' = some ck') ∨ gotoA l k = none
  | [], _, _ => .inr rfl
  | i :: k, _, h => by
    obtain ⟨c, ck, h1, h2, e⟩ := plain_cons h
    subst e
    have ih := gotoIn_of (l := l) h2
    cases i with
    | inScope body =>
      cases h1
      unfold gotoA gotoIn
      simp only [label_of]
      cases hf : findLabel body l with
      | some rest => exact .inl ⟨.code rest :: .inScope body :: k, .code rest :: .inScope body :: ck, rfl, rfl, plain_mk rfl (plain_mk rfl h2)⟩
      | none => exact ih
    | code c0 => cases h1; exact ih
    | inLoop b => cases h1; exact ih
    | inBlock b => cases h1; exact ih
    | beginRound => cases h1; exact ih
    | _ => cases h1
theorem exitTo_of [Atoms] {id : Nat} : ∀ {k : List AItem} {ck : List Item}, plainC k = some ck →
    (∃ k' ck', exitToA id k = some k' ∧ exitTo id ck = some ck' ∧ plainC k' = some ck') ∨ (exitToA id k = none ∧ exitTo id ck = none)
  | [], _, h => by cases h; exact .inr ⟨rfl, rfl⟩
  | i :: k, _, h => by
    obtain ⟨c, ck, h1, h2, e⟩ := plain_cons h
    subst e
    have ih := exitTo_of (id := id) h2
    cases i with
    | inBlock id' =>
      cases h1
      unfold exitToA exitTo
      simp only
      cases hb : Nat.beq id' id with
      | true =>
        have := nbeq.1 hb; subst this
        exact .inl ⟨k, ck, rfl, by simp, h2⟩
      | false =>
        have := nbeq_f.1 hb
        rw [ci_false, if_neg (by simpa using this)]
        exact ih
    | code c0 => cases h1; exact ih
    | inLoop b => cases h1; exact ih
    | inScope b => cases h1; exact ih
    | beginRound => cases h1; exact ih
    | _ => cases h1
end Go.Am
