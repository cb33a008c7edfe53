/-
  What an abstract value, row and memory stand for; the operations that only read are sound.
  Conditions: those that each theorem names.
-/
import Derived.Test.YtlfkmklgbigfaaaGreatDoorAmA
import Derived.Laws.Sem
import Derived.Laws.World
import Derived.Below
import Derived.Laws.Strings
import Derived.Laws.StructEq
import Derived.ChangeKeysEq
namespace Go.Am
open Go Forc

/-! ## the small eliminators -/
@[simp] theorem ci_true {α : Type} (a b : α) : ci true a b = a := rfl
@[simp] theorem ci_false {α : Type} (a b : α) : ci false a b = b := rfl
@[simp] theorem ob_none {α β : Type} (f : α → Option β) : ob none f = none := rfl
@[simp] theorem ob_some {α β : Type} (a : α) (f : α → Option β) : ob (some a) f = f a := rfl
@[simp] theorem op2_none {α β γ : Type} (f : α → β → Option γ) : op2 none f = none := rfl
@[simp] theorem op2_some {α β γ : Type} (a : α) (b : β) (f : α → β → Option γ) : op2 (some (a, b)) f = f a b := rfl
@[simp] theorem od_none {α : Type} (d : α) : od d none = d := rfl
@[simp] theorem od_some {α : Type} (d a : α) : od d (some a) = a := rfl
@[simp] theorem fN_eq [iF : Forc] {β : Type} (n : Nat) (k : Nat → β) : fN n k = k n := lawN n k
@[simp] theorem fB_eq [iF : Forc] {β : Type} (b : Bool) (k : Bool → β) : fB b k = k b := lawB b k

theorem ci_some {α : Type} {c : Bool} {a b : Option α} {x : α} (h : ci c a b = some x) : (c = true ∧ a = some x) ∨ (c = false ∧ b = some x) := by
  cases c
  · exact .inr ⟨rfl, h⟩
  · exact .inl ⟨rfl, h⟩
theorem ci_then {α : Type} {c : Bool} {a : Option α} {x : α} (h : ci c a none = some x) : c = true ∧ a = some x := by
  cases c
  · cases h
  · exact ⟨rfl, h⟩
theorem ci_else {α : Type} {c : Bool} {a : Option α} {x : α} (h : ci c none a = some x) : c = false ∧ a = some x := by
  cases c
  · exact ⟨rfl, h⟩
  · cases h
theorem ob_eq {α β : Type} {x : Option α} {f : α → Option β} {y : β} (h : ob x f = some y) : ∃ a, x = some a ∧ f a = some y := by
  cases x with
  | none => cases h
  | some a => exact ⟨a, rfl, h⟩
theorem op2_eq {α β γ : Type} {x : Option (α × β)} {f : α → β → Option γ} {y : γ} (h : op2 x f = some y) : ∃ a b, x = some (a, b) ∧ f a b = some y := by
  cases x with
  | none => cases h
  | some q => cases q with
    | mk a b => exact ⟨a, b, rfl, h⟩

/-! ## tries -/
def unbits : List Bool → Nat
  | [] => 0
  | true :: p => 2 * unbits p + 1
  | false :: p => 2 * unbits p + 2

theorem bitsF_spec : ∀ (f i : Nat), i ≤ f → unbits (bitsF f i) = i := by
  intro f
  induction f with
  | zero => intro i hi; have : i = 0 := by omega
            subst this; rfl
  | succ f ih =>
    intro i hi
    unfold bitsF
    by_cases h0 : i = 0
    · subst h0; rfl
    · have e0 : Nat.beq i 0 = false := by
        cases i with
        | zero => exact absurd rfl h0
        | succ n => rfl
      rw [e0]
      simp only [ci_false]
      by_cases h1 : i % 2 = 1
      · have e1 : Nat.beq (Nat.mod i 2) 1 = true := by
          show Nat.beq (i % 2) 1 = true
          rw [h1]; rfl
        rw [e1]
        simp only [ci_true, unbits]
        rw [ih (Nat.div i 2) (by show i / 2 ≤ f; omega)]
        show 2 * (i / 2) + 1 = i
        omega
      · have e1 : Nat.beq (Nat.mod i 2) 1 = false := by
          show Nat.beq (i % 2) 1 = false
          have : i % 2 = 0 := by omega
          rw [this]; rfl
        rw [e1]
        simp only [ci_false, unbits]
        rw [ih (Nat.pred (Nat.div i 2)) (by show Nat.pred (i / 2) ≤ f; rw [Nat.pred_eq_sub_one]; omega)]
        show 2 * Nat.pred (i / 2) + 2 = i
        rw [Nat.pred_eq_sub_one]; omega

theorem bits_inj {i j : Nat} (h : bits i = bits j) : i = j := by
  have hi := bitsF_spec i i (Nat.le_refl _)
  have hj := bitsF_spec j j (Nat.le_refl _)
  unfold bits at h
  rw [h] at hi
  omega

namespace T
theorem getP_e {α : Type} (p : List Bool) : (T.e : T α).getP p = none := rfl
theorem getP_nil {α : Type} (l : T α) (v : Option α) (r : T α) : (T.n l v r).getP [] = v := rfl
theorem getP_t {α : Type} (l : T α) (v : Option α) (r : T α) (p : List Bool) : (T.n l v r).getP (true :: p) = l.getP p := rfl
theorem getP_f {α : Type} (l : T α) (v : Option α) (r : T α) (p : List Bool) : (T.n l v r).getP (false :: p) = r.getP p := rfl
theorem setP_nil_e {α : Type} (a : α) : setP a [] (T.e) = .n .e (some a) .e := rfl
theorem setP_nil_n {α : Type} (a : α) (l : T α) (v : Option α) (r : T α) : setP a [] (T.n l v r) = .n l (some a) r := rfl
theorem setP_t_e {α : Type} (a : α) (p : List Bool) : setP a (true :: p) (T.e) = .n (setP a p .e) none .e := rfl
theorem setP_t_n {α : Type} (a : α) (p : List Bool) (l : T α) (v : Option α) (r : T α) : setP a (true :: p) (T.n l v r) = .n (setP a p l) v r := rfl
theorem setP_f_e {α : Type} (a : α) (p : List Bool) : setP a (false :: p) (T.e) = .n .e none (setP a p .e) := rfl
theorem setP_f_n {α : Type} (a : α) (p : List Bool) (l : T α) (v : Option α) (r : T α) : setP a (false :: p) (T.n l v r) = .n l v (setP a p r) := rfl

theorem getP_setP {α : Type} (a : α) : ∀ (p q : List Bool) (t : T α), (setP a p t).getP q = if q = p then some a else t.getP q := by
  intro p
  induction p with
  | nil =>
    intro q t
    cases t with
    | e => cases q with
      | nil => rfl
      | cons b q => cases b <;> simp [setP_nil_e, getP_t, getP_f, getP_e]
    | n l v r => cases q with
      | nil => rfl
      | cons b q => cases b <;> simp [setP_nil_n, getP_t, getP_f]
  | cons b p ih =>
    intro q t
    cases b <;> cases t <;> cases q with
    | nil => rfl
    | cons c q => cases c <;> simp [setP_t_e, setP_t_n, setP_f_e, setP_f_n, getP_t, getP_f, getP_e, ih]

theorem get_set {α : Type} (t : T α) (i j : Nat) (a : α) : (t.set i a).get j = if j = i then some a else t.get j := by
  unfold T.get T.set
  rw [getP_setP]
  by_cases h : j = i
  · subst h; simp
  · have : ¬ bits j = bits i := fun e => h (bits_inj e)
    simp [h, this]
theorem get_set_same {α : Type} (t : T α) (i : Nat) (a : α) : (t.set i a).get i = some a := by rw [get_set]; simp
theorem get_set_ne {α : Type} (t : T α) {i j : Nat} (a : α) (h : j ≠ i) : (t.set i a).get j = t.get j := by rw [get_set]; simp [h]
theorem get_e {α : Type} (i : Nat) : (T.e : T α).get i = none := rfl

theorem get_putL {α : Type} : ∀ (l : List α) (t : T α) (i j : Nat), (putL t i l).get j = if i ≤ j ∧ j < i + l.length then l[j - i]? else t.get j := by
  intro l
  induction l with
  | nil => intro t i j; simp only [putL, List.length_nil]; rw [if_neg (by omega)]
  | cons a l ih =>
    intro t i j
    simp only [putL, List.length_cons]
    rw [ih]
    show (if i + 1 ≤ j ∧ j < i + 1 + l.length then l[j - (i + 1)]? else (t.set i a).get j) = _
    by_cases h1 : j = i
    · subst h1
      rw [if_neg (by omega), if_pos (by omega), get_set_same]; simp
    · rw [get_set_ne t a h1]
      by_cases h2 : i + 1 ≤ j ∧ j < i + 1 + l.length
      · rw [if_pos h2, if_pos (by omega)]
        have : j - i = (j - (i + 1)) + 1 := by omega
        rw [this]; simp
      · rw [if_neg h2, if_neg (by omega)]

theorem get_ofList {α : Type} (l : List α) (j : Nat) : (ofList l).get j = l[j]? := by
  unfold ofList
  rw [get_putL]
  by_cases h : j < l.length
  · rw [if_pos (by omega)]; simp
  · rw [if_neg (by omega), get_e]; simp at h; simp [h]
end T

/-! ## lists -/
theorem lenL_eq {α : Type} (l : List α) : lenL l = l.length := by
  induction l with
  | nil => rfl
  | cons a l ih => simp [lenL, ih]
theorem nth_eq {α : Type} : ∀ (l : List α) (i : Nat), nth l i = l[i]?
  | [], i => by simp [nth]
  | a :: l, 0 => by simp [nth]
  | a :: l, i + 1 => by simp [nth, nth_eq l i]

/-! ## the program's tables -/
theorem info_of_types {P : Program} {t : TypeId} {i : TypeInfo} (h : (AP.of P).types.get t = some i) : P.info? t = some i := by
  have h' : P.types.toList[t]? = some i := by rw [← T.get_ofList]; exact h
  have hl : t < P.types.size := by
    rcases Nat.lt_or_ge t P.types.size with hh | hh
    · exact hh
    · simp [hh] at h'
  have h2 : P.types[t]? = some i := by rw [Array.getElem?_toList] at h'; exact h'
  show Tables.info? P.toTables t = some i
  unfold Tables.info?
  rw [if_pos hl]; exact h2

theorem und_spec {P : Program} {t : TypeId} {d : TypeDesc} (h : (AP.of P).und t = some d) : P.underlying t = some d := by
  unfold AP.und at h
  obtain ⟨i, hi, h⟩ := ob_eq h
  have hi' := info_of_types hi
  unfold Program.underlying
  rw [hi']
  obtain ⟨desc, str, size, bytes, hp, al, fa, zero, comp, ms⟩ := i
  cases desc <;> simp only [undD] at h ⊢ <;> first | exact h | skip
  obtain ⟨j, hj, h⟩ := ob_eq h
  simp [info_of_types hj, Option.some.inj h]

theorem size_spec {P : Program} {t : TypeId} {n : Nat} (h : (AP.of P).size t = some n) : ∃ i, P.info? t = some i ∧ i.size = n := by
  obtain ⟨i, hi, h⟩ := ob_eq h
  exact ⟨i, info_of_types hi, Option.some.inj h⟩
theorem bytes_spec {P : Program} {t : TypeId} {n : Nat} (h : (AP.of P).bytes t = some n) : ∃ i, P.info? t = some i ∧ i.bytes = n := by
  obtain ⟨i, hi, h⟩ := ob_eq h
  exact ⟨i, info_of_types hi, Option.some.inj h⟩
theorem zero_spec {P : Program} {t : TypeId} {v : Value} (h : (AP.of P).zero t = some v) : ∃ i, P.info? t = some i ∧ i.zero = some v ∧ lit v = true := by
  obtain ⟨i, hi, h⟩ := ob_eq h
  obtain ⟨z, hz, h⟩ := ob_eq h
  obtain ⟨hl, h⟩ := ci_then h
  cases h
  exact ⟨i, info_of_types hi, hz, hl⟩

/-! ## runs of the small computations -/
section
variable {P : Program} (w : World)
theorem run_underlying' {t : TypeId} {d : TypeDesc} (h : P.underlying t = some d) : (underlying t).run P w = .ok d w := by
  simp [underlying, h]
theorem run_typeInfo' {t : TypeId} {i : TypeInfo} (h : P.info? t = some i) : (typeInfo t).run P w = .ok i w := by
  simp [typeInfo, h]
theorem run_sizeOf' {t : TypeId} {i : TypeInfo} (h : P.info? t = some i) : (sizeOf t).run P w = .ok i.size w := by
  simp [sizeOf, typeInfo, h]
theorem run_zeroValue' {t : TypeId} {i : TypeInfo} {v : Value} (h : P.info? t = some i) (hz : i.zero = some v) : (zeroValue t).run P w = .ok v w := by
  simp [zeroValue, typeInfo, h, hz]
theorem run_isAgg' {t : TypeId} {d : TypeDesc} (h : P.underlying t = some d) : (isAgg t).run P w = .ok (isAggD d) w := by
  simp only [isAgg, Sem.run_bind, run_underlying' w h, Result.andThen_ok]
  cases d <;> rfl
end

end Go.Am

namespace Go.Am
open Go Forc

/-! ## what an abstract value stands for -/
/-- where an abstract row lies: its block, its first cell there, how many cells there are from there to the block's end -/
structure PB where
  blk : Nat
  off : Nat
  cap : Nat
abbrev Rho := Nat → Option PB
/-- values of which nothing is known but that they fit a cell, and are no truth values; what is known of the world at the start -/
class Atoms where
  tab : Nat → Option Value
  one : ∀ k v, tab k = some v → v.oneCell' = true
  cells : ∀ k v, tab k = some v → v.cells = #[v]
  noBool : ∀ k v b, tab k = some v → v ≠ .bool b
  Q : World → Prop
  stay : ∀ w w', Q w → Go.RowKit.Below w.heap.size w w' → Q w'
/-- nothing is unknown, nothing is asked of the start -/
instance at0 : Atoms where
  tab := fun _ => none
  one := fun _ _ h => by cases h
  cells := fun _ _ h => by cases h
  noBool := fun _ _ _ h => by cases h
  Q := fun _ => True
  stay := fun _ _ _ _ => trivial
def Rho.le (r s : Rho) : Prop := ∀ i p, r i = some p → s i = some p

def ca (r : Rho) (a : Addr) : Option Addr :=
  match a.spot with
  | some _ => none
  | none => match r a.block with
    | some pb => some ⟨pb.blk, pb.off + a.off, none⟩
    | none => none

def cslice (r : Rho) (a : Addr) (l c : Nat) : Option Value :=
  match a.spot with
  | some _ => none
  | none => match r a.block with
    | none => none
    | some pb =>
      if c < capInf then some (.slice (some ⟨pb.blk, pb.off + a.off, none⟩) l c)
      else if c < capEmp then
        if 0 < c - capInf ∧ a.off + l * (c - capInf) ≤ pb.cap then some (.slice (some ⟨pb.blk, pb.off + a.off, none⟩) l ((pb.cap - a.off) / (c - capInf))) else none
      else
        if l = 0 ∧ 0 < (c - capEmp) % 256 ∧ 0 < (c - capEmp) / 256 ∧ a.off + (c - capEmp) / 256 * ((c - capEmp) % 256) ≤ pb.cap then
          if (pb.cap - a.off) / ((c - capEmp) % 256) = (c - capEmp) / 256 then some (.slice (some ⟨pb.blk, pb.off + a.off, none⟩) 0 0)
          else some (.slice (some ⟨pb.blk, pb.off + a.off + (c - capEmp) / 256 * ((c - capEmp) % 256), none⟩) 0 ((pb.cap - a.off) / ((c - capEmp) % 256) - (c - capEmp) / 256))
        else none

def cfn (r : Rho) : Fn → Option Fn
  | .yield l => match r l with
    | some pb => some (.yield pb.blk)
    | none => none
  | f => some f

mutual
def cv [Atoms] (r : Rho) : Value → Option Value
  | .bool b => some (.bool b)
  | .int k n => some (.int k n)
  | .float k n => some (.float k n)
  | .complex k a b => some (.complex k a b)
  | .string s => some (.string s)
  | .pointer none => some (.pointer none)
  | .pointer (some a) => match ca r a with
    | some a' => some (.pointer (some a'))
    | none => none
  | .slice none l c => some (.slice none l c)
  | .slice (some a) l c => cslice r a l c
  | .map none => some (.map none)
  | .map (some m) => match r m with
    | some pb => some (.map (some pb.blk))
    | none => none
  | .chan none => some (.chan none)
  | .chan (some k) => Atoms.tab k
  | .func f ⟨a⟩ ⟨b⟩ => match cfn r f, cvs r a, cvs r b with
    | some f', some a', some b' => some (.func f' ⟨a'⟩ ⟨b'⟩)
    | _, _, _ => none
  | .nilFunc => some .nilFunc
  | .iface t v => match cv r v with
    | some v' => some (.iface t v')
    | none => none
  | .nilIface => some .nilIface
  | .agg ⟨l⟩ => match cvs r l with
    | some l' => some (.agg ⟨l'⟩)
    | none => none
  | .tuple ⟨l⟩ => match cvs r l with
    | some l' => some (.tuple ⟨l'⟩)
    | none => none
def cvs [Atoms] (r : Rho) : List Value → Option (List Value)
  | [] => some []
  | v :: l => match cv r v, cvs r l with
    | some v', some l' => some (v' :: l')
    | _, _ => none
end

theorem ca_mono {r s : Rho} (h : r.le s) {a b : Addr} (e : ca r a = some b) : ca s a = some b := by
  unfold ca at *
  split at e
  · cases e
  · rename_i hs
    split at e
    · rename_i pb hp; simp only [h _ _ hp]; exact e
    · cases e
theorem cslice_mono {r s : Rho} (h : r.le s) {a : Addr} {l c : Nat} {v : Value} (e : cslice r a l c = some v) : cslice s a l c = some v := by
  unfold cslice at *
  split at e
  · cases e
  · rename_i hs
    split at e
    · cases e
    · rename_i pb hp; simp only [h _ _ hp]; exact e
theorem cfn_mono {r s : Rho} (h : r.le s) {f g : Fn} (e : cfn r f = some g) : cfn s f = some g := by
  unfold cfn at *
  cases f <;> simp only at e ⊢ <;> first | exact e | skip
  split at e
  · rename_i pb hp; rw [h _ _ hp]; exact e
  · cases e

mutual
theorem cv_mono [Atoms] {r s : Rho} (h : r.le s) : ∀ {v w : Value}, cv r v = some w → cv s v = some w
  | .bool _, _, e => by simpa [cv] using e
  | .int _ _, _, e => by simpa [cv] using e
  | .float _ _, _, e => by simpa [cv] using e
  | .complex _ _ _, _, e => by simpa [cv] using e
  | .string _, _, e => by simpa [cv] using e
  | .pointer none, _, e => by simpa [cv] using e
  | .pointer (some a), _, e => by
    simp only [cv] at *
    split at e
    · rename_i a' ha; rw [ca_mono h ha]; exact e
    · cases e
  | .slice none _ _, _, e => by simpa [cv] using e
  | .slice (some a) l c, _, e => by simp only [cv] at *; exact cslice_mono h e
  | .map none, _, e => by simpa [cv] using e
  | .map (some m), _, e => by
    simp only [cv] at *
    split at e
    · rename_i pb hp; rw [h _ _ hp]; exact e
    · cases e
  | .chan none, _, e => by simpa [cv] using e
  | .chan (some _), _, e => by simpa [cv] using e
  | .func f ⟨a⟩ ⟨b⟩, _, e => by
    simp only [cv] at *
    split at e
    · rename_i f' a' b' hf ha hb; rw [cfn_mono h hf, cvs_mono h ha, cvs_mono h hb]; exact e
    · cases e
  | .nilFunc, _, e => by simpa [cv] using e
  | .iface t v, _, e => by
    simp only [cv] at *
    split at e
    · rename_i v' hv; rw [cv_mono h hv]; exact e
    · cases e
  | .nilIface, _, e => by simpa [cv] using e
  | .agg ⟨l⟩, _, e => by
    simp only [cv] at *
    split at e
    · rename_i v' hv; rw [cvs_mono h hv]; exact e
    · cases e
  | .tuple ⟨l⟩, _, e => by
    simp only [cv] at *
    split at e
    · rename_i v' hv; rw [cvs_mono h hv]; exact e
    · cases e
theorem cvs_mono [Atoms] {r s : Rho} (h : r.le s) : ∀ {v w : List Value}, cvs r v = some w → cvs s v = some w
  | [], _, e => by simpa [cvs] using e
  | v :: l, _, e => by
    simp only [cvs] at *
    split at e
    · rename_i v' l' hv hl; rw [cv_mono h hv, cvs_mono h hl]; exact e
    · cases e
end

theorem Rho.le_refl (r : Rho) : r.le r := fun _ _ h => h
theorem Rho.le_trans {r s t : Rho} (h : r.le s) (k : s.le t) : r.le t := fun i p hp => k i p (h i p hp)

theorem cvs_length [Atoms] {r : Rho} : ∀ {l l' : List Value}, cvs r l = some l' → l'.length = l.length
  | [], _, e => by simp [cvs] at e; subst e; rfl
  | v :: l, _, e => by
    simp only [cvs] at e
    split at e
    · rename_i v' l' hv hl
      cases e
      simp [cvs_length hl]
    · cases e
theorem cvs_get [Atoms] {r : Rho} : ∀ {l l' : List Value} {i : Nat} {v : Value}, cvs r l = some l' → l[i]? = some v → ∃ v', cv r v = some v' ∧ l'[i]? = some v'
  | [], _, i, v, _, h => by simp at h
  | a :: l, _, i, v, e, h => by
    simp only [cvs] at e
    split at e
    · rename_i v' l' hv hl
      cases e
      cases i with
      | zero => simp at h; subst h; exact ⟨v', hv, by simp⟩
      | succ i => simp at h ⊢; exact cvs_get hl h
    · cases e
theorem cvs_cons [Atoms] {r : Rho} {v : Value} {l l' : List Value} (e : cvs r (v :: l) = some l') : ∃ v' k, l' = v' :: k ∧ cv r v = some v' ∧ cvs r l = some k := by
  simp only [cvs] at e
  split at e
  · rename_i v' k hv hl
    cases e
    exact ⟨v', k, rfl, hv, hl⟩
  · cases e
theorem cvs_mk_cons [Atoms] {r : Rho} {v v' : Value} {l l' : List Value} (h : cv r v = some v') (k : cvs r l = some l') : cvs r (v :: l) = some (v' :: l') := by
  simp only [cvs, h, k]
theorem cvs_append [Atoms] {r : Rho} : ∀ {a a' b b' : List Value}, cvs r a = some a' → cvs r b = some b' → cvs r (a ++ b) = some (a' ++ b')
  | [], _, _, _, ha, hb => by simp [cvs] at ha; subst ha; simpa using hb
  | v :: a, _, b, b', ha, hb => by
    obtain ⟨v', k, rfl, hv, hl⟩ := cvs_cons ha
    exact cvs_mk_cons hv (cvs_append hl hb)
theorem cvs_take [Atoms] {r : Rho} (n : Nat) : ∀ {a a' : List Value}, cvs r a = some a' → cvs r (a.take n) = some (a'.take n) := by
  induction n with
  | zero => intro a a' _; simp [cvs]
  | succ n ih =>
    intro a a' ha
    cases a with
    | nil => simp [cvs] at ha; subst ha; simp [cvs]
    | cons v a =>
      obtain ⟨v', k, rfl, hv, hl⟩ := cvs_cons ha
      simp only [List.take_succ_cons]
      exact cvs_mk_cons hv (ih hl)
theorem cvs_drop [Atoms] {r : Rho} (n : Nat) : ∀ {a a' : List Value}, cvs r a = some a' → cvs r (a.drop n) = some (a'.drop n) := by
  induction n with
  | zero => intro a a' h; simpa using h
  | succ n ih =>
    intro a a' ha
    cases a with
    | nil => simp [cvs] at ha; subst ha; simp [cvs]
    | cons v a =>
      obtain ⟨v', k, rfl, hv, hl⟩ := cvs_cons ha
      simpa using ih hl

/-- a value's cells stand for its cells -/
theorem cv_cells [Atoms] {r : Rho} {v v' : Value} (h : cv r v = some v') : cvs r (cellsOf v) = some v'.cells.toList := by
  have plain : ∀ {v v' : Value}, cv r v = some v' → cellsOf v = [v] → v'.cells = #[v'] → cvs r (cellsOf v) = some v'.cells.toList := by
    intro v v' h hc hc'
    rw [hc, hc']
    exact cvs_mk_cons h (by simp [cvs])
  cases v with
  | agg cs =>
    obtain ⟨l⟩ := cs
    simp only [cv] at h
    split at h
    · rename_i l' hl; cases h; exact hl
    · cases h
  | bool b => simp [cv] at h; subst h; exact plain rfl rfl rfl
  | int k n => simp [cv] at h; subst h; exact plain rfl rfl rfl
  | float k n => simp [cv] at h; subst h; exact plain rfl rfl rfl
  | complex k a b => simp [cv] at h; subst h; exact plain rfl rfl rfl
  | string s => simp [cv] at h; subst h; exact plain rfl rfl rfl
  | nilFunc => simp [cv] at h; subst h; exact plain rfl rfl rfl
  | nilIface => simp [cv] at h; subst h; exact plain rfl rfl rfl
  | pointer a =>
    refine plain h rfl ?_
    cases a with
    | none => simp [cv] at h; subst h; rfl
    | some a => simp only [cv] at h; split at h <;> cases h; rfl
  | slice a l c =>
    refine plain h rfl ?_
    cases a with
    | none => simp [cv] at h; subst h; rfl
    | some a =>
      simp only [cv, cslice] at h
      repeat' split at h
      all_goals first | (cases h; done) | (cases h; rfl)
  | map a =>
    refine plain h rfl ?_
    cases a with
    | none => simp [cv] at h; subst h; rfl
    | some a => simp only [cv] at h; split at h <;> cases h; rfl
  | chan a =>
    refine plain h rfl ?_
    cases a with
    | none => simp [cv] at h; subst h; rfl
    | some a => exact Atoms.cells a _ (by simpa [cv] using h)
  | func f a b =>
    obtain ⟨a⟩ := a; obtain ⟨b⟩ := b
    refine plain h rfl ?_
    simp only [cv] at h; split at h <;> cases h; rfl
  | iface t x =>
    refine plain h rfl ?_
    simp only [cv] at h; split at h <;> cases h; rfl
  | tuple cs =>
    obtain ⟨l⟩ := cs
    refine plain h rfl ?_
    simp only [cv] at h; split at h <;> cases h; rfl

theorem cv_noAgg [Atoms] {r : Rho} {v v' : Value} (h : cv r v = some v') (hn : noAgg v = true) : v'.oneCell' = true := by
  cases v with
  | agg cs => simp [noAgg] at hn
  | tuple cs => simp [noAgg] at hn
  | bool b => simp [cv] at h; subst h; rfl
  | int k n => simp [cv] at h; subst h; rfl
  | float k n => simp [cv] at h; subst h; rfl
  | complex k a b => simp [cv] at h; subst h; rfl
  | string s => simp [cv] at h; subst h; rfl
  | nilFunc => simp [cv] at h; subst h; rfl
  | nilIface => simp [cv] at h; subst h; rfl
  | pointer a =>
    cases a with
    | none => simp [cv] at h; subst h; rfl
    | some a => simp only [cv] at h; split at h <;> cases h; rfl
  | slice a l c =>
    cases a with
    | none => simp [cv] at h; subst h; rfl
    | some a =>
      simp only [cv, cslice] at h
      repeat' split at h
      all_goals first | (cases h; done) | (cases h; rfl)
  | map a =>
    cases a with
    | none => simp [cv] at h; subst h; rfl
    | some a => simp only [cv] at h; split at h <;> cases h; rfl
  | chan a =>
    cases a with
    | none => simp [cv] at h; subst h; rfl
    | some a => exact Atoms.one a _ (by simpa [cv] using h)
  | func f a b =>
    obtain ⟨a⟩ := a; obtain ⟨b⟩ := b
    simp only [cv] at h; split at h <;> cases h; rfl
  | iface t x =>
    simp only [cv] at h; split at h <;> cases h; rfl

/-! ## constants stand for themselves -/
mutual
theorem lit_cv [Atoms] (r : Rho) : ∀ (f : Nat) (v : Value), litF f v = true → cv r v = some v
  | 0, v, h => by
    cases v with
    | pointer a => cases a <;> simp_all [litF, cv]
    | slice a l c => cases a <;> simp_all [litF, cv]
    | map a => cases a <;> simp_all [litF, cv]
    | _ => simp_all [litF, cv]
  | f + 1, v, h => by
    cases v with
    | pointer a => cases a <;> simp_all [litF, cv]
    | slice a l c => cases a <;> simp_all [litF, cv]
    | map a => cases a <;> simp_all [litF, cv]
    | agg cs => obtain ⟨l⟩ := cs; simp only [litF] at h; simp only [cv, lits_cv r f l h]
    | tuple cs => obtain ⟨l⟩ := cs; simp only [litF] at h; simp only [cv, lits_cv r f l h]
    | iface t x => simp only [litF] at h; simp only [cv, lit_cv r f x h]
    | _ => simp_all [litF, cv]
theorem lits_cv [Atoms] (r : Rho) : ∀ (f : Nat) (l : List Value), litF.all f l = true → cvs r l = some l
  | _, [], _ => by simp [cvs]
  | f, v :: l, h => by
    simp only [litF.all, Bool.and_eq_true] at h
    exact cvs_mk_cons (lit_cv r f v h.1) (lits_cv r f l h.2)
end
theorem lit_spec [Atoms] {r : Rho} {v : Value} (h : lit v = true) : cv r v = some v := lit_cv r 4 v h

end Go.Am

namespace Go.Am
open Go Go.RowKit Forc

/-! ## what an abstract object stands for -/
structure CellsR [Atoms] (r : Rho) (c : T Value) (n : Nat) (e : TypeId) (opn ro : Bool) (pb : PB) (cs : Array Value) (fz : Nat × Nat) : Prop where
  size : pb.off + pb.cap = cs.size
  le : n ≤ pb.cap
  shut : opn = false → n = pb.cap ∧ pb.off = 0
  cell : ∀ k v, c.get k = some v → k < n ∧ ∃ v', cv r v = some v' ∧ cs[pb.off + k]? = some v'
  free : ro = false → fz.1 = fz.2 ∨ cs.size ≤ fz.1

def DR [Atoms] (r : Rho) (d cd : Deferred) : Prop :=
  cvs r d.args.toList = some cd.args.toList ∧
  match d.target with
  | .fn f cap => ∃ f' cap', cd.target = .fn f' cap' ∧ cfn r f = some f' ∧ cvs r cap.toList = some cap'.toList
  | .collected b => ∃ pb, r b = some pb ∧ cd.target = .collected pb.blk
  | _ => False
def DLR [Atoms] (r : Rho) : List Deferred → List Deferred → Prop
  | [], l => l = []
  | d :: ds, l => ∃ c cs, l = c :: cs ∧ DR r d c ∧ DLR r ds cs

def ER [Atoms] (r : Rho) (e c : MapEntry) : Prop := cv r e.key = some c.key ∧ cv r e.val = some c.val ∧ c.born = e.born
def ELR [Atoms] (r : Rho) : List MapEntry → List MapEntry → Prop
  | [], l => l = []
  | e :: es, l => ∃ c cs, l = c :: cs ∧ ER r e c ∧ ELR r es cs

/-- the temporaries that are known, but for some -/
def TR [Atoms] (r : Rho) (pend : Nat → Prop) (nt : Nat) (tm : T Value) (ct : Array Value) : Prop :=
  ct.size = nt ∧ ∀ t v, ¬ pend t → tm.get t = some v → ∃ v', cv r v = some v' ∧ ct[t]? = some v'

structure LR [Atoms] (r : Rho) (l : ALoop) (c : Loop) : Prop where
  state : c.state = l.state
  pending : c.pending = l.pending
  fn : c.fn = l.fn
  tmps : TR r (fun _ => False) l.nt l.tmps c.tmps
  params : c.params = l.params
  assign : c.assign = l.assign
  body : c.body = l.body
  defers : ∃ pb, r l.defers = some pb ∧ c.defers = pb.blk

def OR [Atoms] (r : Rho) (pb : PB) (o : Obj) : AObj → Prop
  | .cells c n e opn ro => ∃ cs fz, o = .cells cs e fz ∧ CellsR r c n e opn ro pb cs fz
  | .map es clock => ∃ ces, o = .map ces clock ∧ ELR r es ces.toList
  | .strIter s pos => ∃ full, o = .stringIter full pos ∧ full.data.toList.drop pos = s ∧ pb.off = 0
  | .mapIter m since seen last => ∃ cm, o = .mapIter cm since ⟨seen.reverse⟩ last ∧ pb.off = 0 ∧ (match m with
    | none => cm = none
    | some i => ∃ q, r i = some q ∧ cm = some q.blk)
  | .loop l => ∃ cl, o = .loop cl ∧ LR r l cl
  | .deferred ds => ∃ cds, o = .deferred cds ∧ (match ds with
    | none => cds = none
    | some l => ∃ cl, cds = some cl ∧ DLR r l cl)
  | .dead => True

def AObj.isLive : AObj → Bool
  | .dead => false
  | _ => true
def AObj.isRo : AObj → Bool
  | .cells _ _ _ _ ro => ro
  | _ => false

theorem DR_mono [Atoms] {r s : Rho} (h : r.le s) {d c : Deferred} (k : DR r d c) : DR s d c := by
  obtain ⟨h1, h2⟩ := k
  refine ⟨cvs_mono h h1, ?_⟩
  cases ht : d.target <;> rw [ht] at h2 <;> simp only at h2 ⊢
  · obtain ⟨f', cap', a, b, c⟩ := h2; exact ⟨f', cap', a, cfn_mono h b, cvs_mono h c⟩
  · obtain ⟨pb, a, b⟩ := h2; exact ⟨pb, h _ _ a, b⟩
theorem DLR_mono [Atoms] {r s : Rho} (h : r.le s) : ∀ {l c : List Deferred}, DLR r l c → DLR s l c
  | [], _, k => k
  | _ :: _, _, ⟨c, cs, e, a, b⟩ => ⟨c, cs, e, DR_mono h a, DLR_mono h b⟩
theorem DLR_append [Atoms] {r : Rho} : ∀ {l c l' c' : List Deferred}, DLR r l c → DLR r l' c' → DLR r (l ++ l') (c ++ c')
  | [], _, _, _, h, k => by cases h; simpa using k
  | _ :: _, _, _, _, ⟨c, cs, e, a, b⟩, k => by subst e; exact ⟨c, _, rfl, a, DLR_append b k⟩
theorem ELR_mono [Atoms] {r s : Rho} (h : r.le s) : ∀ {l c : List MapEntry}, ELR r l c → ELR s l c
  | [], _, k => k
  | _ :: _, _, ⟨c, cs, e, a, b⟩ => ⟨c, cs, e, ⟨cv_mono h a.1, cv_mono h a.2.1, a.2.2⟩, ELR_mono h b⟩
theorem TR_mono [Atoms] {r s : Rho} (h : r.le s) {pend : Nat → Prop} {nt : Nat} {tm : T Value} {ct : Array Value} (k : TR r pend nt tm ct) : TR s pend nt tm ct :=
  ⟨k.1, fun t v hp hv => by obtain ⟨v', a, b⟩ := k.2 t v hp hv; exact ⟨v', cv_mono h a, b⟩⟩
theorem LR_mono [Atoms] {r s : Rho} (h : r.le s) {l : ALoop} {c : Loop} (k : LR r l c) : LR s l c :=
  { k with tmps := TR_mono h k.tmps, defers := by obtain ⟨pb, a, b⟩ := k.defers; exact ⟨pb, h _ _ a, b⟩ }
theorem CellsR_mono [Atoms] {r s : Rho} (h : r.le s) {c : T Value} {n : Nat} {e : TypeId} {opn ro : Bool} {pb : PB} {cs : Array Value} {fz : Nat × Nat} (k : CellsR r c n e opn ro pb cs fz) : CellsR s c n e opn ro pb cs fz :=
  { k with cell := fun i v hv => by obtain ⟨a, v', b, d⟩ := k.cell i v hv; exact ⟨a, v', cv_mono h b, d⟩ }
theorem OR_mono [Atoms] {r s : Rho} (h : r.le s) {pb : PB} {o : Obj} : ∀ {ao : AObj}, OR r pb o ao → OR s pb o ao
  | .cells .., ⟨cs, fz, e, k⟩ => ⟨cs, fz, e, CellsR_mono h k⟩
  | .map .., ⟨ces, e, k⟩ => ⟨ces, e, ELR_mono h k⟩
  | .strIter .., k => k
  | .mapIter m _ _ _, ⟨cm, e, e2, k⟩ => ⟨cm, e, e2, by
    cases m with
    | none => exact k
    | some i => obtain ⟨q, a, b⟩ := k; exact ⟨q, h _ _ a, b⟩⟩
  | .loop .., ⟨cl, e, k⟩ => ⟨cl, e, LR_mono h k⟩
  | .deferred ds, ⟨cds, e, k⟩ => ⟨cds, e, by
    cases ds with
    | none => exact k
    | some l => obtain ⟨cl, a, b⟩ := k; exact ⟨cl, a, DLR_mono h b⟩⟩
  | .dead, _ => trivial

/-! ## what an abstract heap stands for -/
structure HR [At : Atoms] (gl : Nat) (r : Rho) (h : AHeap) (w0 w : World) : Prop where
  obj : ∀ i pb, r i = some pb → ∃ o, w.heap[pb.blk]? = some o ∧ ∀ ao, h.get i = some ao → OR r pb o ao
  inj : ∀ i j p q a b, r i = some p → r j = some q → h.get i = some a → h.get j = some b → a.isLive = true → b.isLive = true → p.blk = q.blk → i = j
  bnd : ∀ i pb, r i = some pb → i < h.next
  new : ∀ i, h.next ≤ i → h.get i = none
  hi : ∀ i pb a, r i = some pb → h.get i = some a → a.isLive = true → a.isRo = false → w0.heap.size ≤ pb.blk
  glob : ∀ g, g < gl → ∃ cap, r g = some ⟨g, 0, cap⟩
  below : Below w0.heap.size w0 w
  ask : At.Q w0
  /-- no cell is known behind a row's end -/
  wf : ∀ i c n t o ro k v, h.get i = some (.cells c n t o ro) → c.get k = some v → k < n

/-- 's' tells of what 'r' tells of, and else of new ones only -/
structure Ext (n : Nat) (r s : Rho) : Prop where
  le : r.le s
  old : ∀ i, i < n → s i = r i
theorem Ext.rfl [Atoms] {n : Nat} {r : Rho} : Ext n r r := ⟨r.le_refl, fun _ _ => Eq.refl _⟩
theorem Ext.trans [Atoms] {n m : Nat} {r s t : Rho} (h : Ext n r s) (hm : n ≤ m) (k : Ext m s t) : Ext n r t :=
  ⟨Rho.le_trans h.le k.le, fun i hi => by rw [k.old i (by omega), h.old i hi]⟩

theorem HR.congr [Atoms] {gl : Nat} {r : Rho} {h k : AHeap} {w0 w : World} (H : HR gl r h w0 w) (hg : ∀ i, k.get i = h.get i) (hn : k.next = h.next) : HR gl r k w0 w where
  obj := fun i pb hr => by obtain ⟨o, ho, hh⟩ := H.obj i pb hr; exact ⟨o, ho, fun ao ha => hh ao (by rw [← hg]; exact ha)⟩
  inj := fun i j p q a b h1 h2 h3 h4 => H.inj i j p q a b h1 h2 (by rw [← hg]; exact h3) (by rw [← hg]; exact h4)
  bnd := fun i pb hr => by rw [hn]; exact H.bnd i pb hr
  new := fun i hi => by rw [hg]; exact H.new i (by rw [← hn]; exact hi)
  hi := fun i pb a h1 h2 => H.hi i pb a h1 (by rw [← hg]; exact h2)
  glob := H.glob
  ask := H.ask
  below := H.below
  wf := fun i c n t o ro k v h1 h2 => H.wf i c n t o ro k v (by rw [← hg]; exact h1) h2

theorem get_put (h : AHeap) (i j : Nat) (o : AObj) : (h.put i o).get j = if j = i then some o else h.get j := T.get_set _ _ _ _
@[simp] theorem next_put (h : AHeap) (i : Nat) (o : AObj) : (h.put i o).next = h.next := rfl
theorem push_eq [iF : Forc] (h : AHeap) (o : AObj) : h.push o = ⟨h.objs.set h.next o, h.next + 1⟩ := by
  cases h; simp [AHeap.push]
theorem get_push [Atoms] [iF : Forc] (h : AHeap) (j : Nat) (o : AObj) : (h.push o).get j = if j = h.next then some o else h.get j := by
  rw [push_eq]; exact T.get_set _ _ _ _
@[simp] theorem next_push [Atoms] [iF : Forc] (h : AHeap) (o : AObj) : (h.push o).next = h.next + 1 := by rw [push_eq]

/-- an object is replaced by another one -/
theorem HR.put [Atoms] {gl : Nat} {r : Rho} {h : AHeap} {w0 w w' : World} (H : HR gl r h w0 w) {i : Nat} {pb : PB} {a a' : AObj} {o' : Obj}
    (hr : r i = some pb) (ha : h.get i = some a) (hl : a.isLive = true) (hro : a.isRo = false)
    (hb : w'.heap[pb.blk]? = some o') (hoth : ∀ k, k ≠ pb.blk → w'.heap[k]? = w.heap[k]?) (hsz : w'.heap.size = w.heap.size)
    (hos : w'.os = w.os) (htape : w'.tape = w.tape) (hout : w'.output = w.output) (hor : OR r pb o' a') : HR gl r (h.put i a') w0 w' where
  obj := fun j q hj => by
    by_cases e : q.blk = pb.blk
    · refine ⟨o', by rw [e]; exact hb, fun ao hao => ?_⟩
      rw [get_put] at hao
      by_cases eij : j = i
      · subst eij
        rw [hr] at hj; cases hj
        simp at hao; subst hao; exact hor
      · simp only [eij, if_false] at hao
        cases hd : ao.isLive with
        | false => cases ao <;> simp_all [AObj.isLive, OR]
        | true => exact absurd (H.inj j i q pb ao a hj hr hao ha hd hl e) eij
    · obtain ⟨o, ho, hh⟩ := H.obj j q hj
      refine ⟨o, by rw [hoth _ e]; exact ho, fun ao hao => ?_⟩
      rw [get_put] at hao
      by_cases eij : j = i
      · subst eij
        rw [hr] at hj; cases hj; exact absurd rfl e
      · simp only [eij, if_false] at hao; exact hh ao hao
  inj := fun x y p q ax ay hx hy gx gy lx ly e => by
    have key : ∀ {x : Nat} {p : PB} {ax : AObj}, r x = some p → (h.put i a').get x = some ax → ax.isLive = true → ∃ bx, h.get x = some bx ∧ bx.isLive = true := by
      intro x p ax hx gx lx
      rw [get_put] at gx
      by_cases ex : x = i
      · subst ex; exact ⟨a, ha, hl⟩
      · simp only [ex, if_false] at gx; exact ⟨ax, gx, lx⟩
    obtain ⟨bx, b1, b2⟩ := key hx gx lx
    obtain ⟨b, c1, c2⟩ := key hy gy ly
    exact H.inj x y p q bx b hx hy b1 c1 b2 c2 e
  bnd := fun j q hj => H.bnd j q hj
  new := fun j hj => by
    rw [get_put]
    have : i < h.next := H.bnd i pb hr
    rw [if_neg (by simp at hj; omega)]
    exact H.new j hj
  hi := fun j q x hj gx lx rx => by
    rw [get_put] at gx
    by_cases ex : j = i
    · subst ex; rw [hr] at hj; cases hj; exact H.hi _ _ _ hr ha hl hro
    · simp only [ex, if_false] at gx; exact H.hi _ _ _ hj gx lx rx
  glob := H.glob
  ask := H.ask
  below := H.below.trans ⟨hos, htape, hout, by omega, fun k hk => hoth k (by
    have := H.hi _ _ _ hr ha hl hro
    omega)⟩
  wf := fun j c n t o ro k v h1 h2 => by
    rw [get_put] at h1
    by_cases ex : j = i
    · simp only [ex, if_true, Option.some.injEq] at h1
      subst h1
      obtain ⟨cs, fz, _, K⟩ := hor
      exact (K.cell k v h2).1
    · simp only [ex, if_false] at h1; exact H.wf j c n t o ro k v h1 h2

/-- an object dies -/
theorem HR.kill [Atoms] {gl : Nat} {r : Rho} {h : AHeap} {w0 w : World} (H : HR gl r h w0 w) {i : Nat} {pb : PB} (hr : r i = some pb) : HR gl r (h.put i .dead) w0 w where
  obj := fun j q hj => by
    obtain ⟨o, ho, hh⟩ := H.obj j q hj
    refine ⟨o, ho, fun ao hao => ?_⟩
    rw [get_put] at hao
    by_cases e : j = i
    · simp [e] at hao; subst hao; trivial
    · simp only [e, if_false] at hao; exact hh ao hao
  inj := fun x y p q ax ay hx hy gx gy lx ly e => by
    rw [get_put] at gx gy
    by_cases ex : x = i
    · simp [ex] at gx; subst gx; cases lx
    · by_cases ey : y = i
      · simp [ey] at gy; subst gy; cases ly
      · simp only [ex, ey, if_false] at gx gy; exact H.inj x y p q ax ay hx hy gx gy lx ly e
  bnd := fun j q hj => H.bnd j q hj
  new := fun j hj => by
    rw [get_put]
    have : i < h.next := H.bnd i pb hr
    rw [if_neg (by simp at hj; omega)]
    exact H.new j hj
  hi := fun j q x hj gx lx rx => by
    rw [get_put] at gx
    by_cases ex : j = i
    · simp [ex] at gx; subst gx; cases lx
    · simp only [ex, if_false] at gx; exact H.hi _ _ _ hj gx lx rx
  glob := H.glob
  ask := H.ask
  below := H.below
  wf := fun j c n t o ro k v h1 h2 => by
    rw [get_put] at h1
    by_cases ex : j = i
    · simp [ex] at h1
    · simp only [ex, if_false] at h1; exact H.wf j c n t o ro k v h1 h2

/-- one more row -/
def Rho.ext (r : Rho) (i : Nat) (pb : PB) : Rho := fun j => if j = i then some pb else r j
theorem Rho.le_ext {r : Rho} {i : Nat} {pb : PB} (h : r i = none) : r.le (r.ext i pb) := fun j p hj => by
  unfold Rho.ext
  by_cases e : j = i
  · subst e; rw [h] at hj; cases hj
  · simp [e, hj]
theorem Rho.ext_same (r : Rho) (i : Nat) (pb : PB) : r.ext i pb i = some pb := by simp [Rho.ext]
theorem HR.unused [Atoms] {gl : Nat} {r : Rho} {h : AHeap} {w0 w : World} (H : HR gl r h w0 w) : r h.next = none := by
  cases e : r h.next with
  | none => rfl
  | some pb => exact absurd (H.bnd _ _ e) (Nat.lt_irrefl _)

theorem Ext.of [Atoms] {gl : Nat} {r : Rho} {h : AHeap} {w0 w : World} (H : HR gl r h w0 w) {pb : PB} : Ext h.next r (r.ext h.next pb) :=
  ⟨Rho.le_ext H.unused, fun i hi => by unfold Rho.ext; rw [if_neg (by omega)]⟩

/-- a new row in a block of its own, or in one that no living row is in -/
theorem HR.add [Atoms] [iF : Forc] {gl : Nat} {r : Rho} {h : AHeap} {w0 w w' : World} (H : HR gl r h w0 w) {pb : PB} {a : AObj} {o : Obj}
    (hb : w'.heap[pb.blk]? = some o)
    (hoth : ∀ k, k < w.heap.size → k ≠ pb.blk → w'.heap[k]? = w.heap[k]?) (hsz : w.heap.size ≤ w'.heap.size)
    (hos : w'.os = w.os) (htape : w'.tape = w.tape) (hout : w'.output = w.output)
    (hnew : ∀ i p b, r i = some p → h.get i = some b → b.isLive = true → p.blk ≠ pb.blk)
    (hlow : w0.heap.size ≤ pb.blk)
    (hor : OR (r.ext h.next pb) pb o a) : HR gl (r.ext h.next pb) (h.push a) w0 w' where
  obj := fun j q hj => by
    unfold Rho.ext at hj
    by_cases e : j = h.next
    · subst e
      simp at hj; subst hj
      refine ⟨o, hb, fun ao hao => ?_⟩
      rw [get_push] at hao
      simp at hao; subst hao; exact hor
    · simp only [e, if_false] at hj
      by_cases eb : q.blk = pb.blk
      · refine ⟨o, by rw [eb]; exact hb, fun ao hao => ?_⟩
        rw [get_push] at hao
        simp only [e, if_false] at hao
        cases hd : ao.isLive with
        | false => cases ao <;> simp_all [AObj.isLive, OR]
        | true => exact absurd eb (hnew j q ao hj hao hd)
      · obtain ⟨ob, ho, hh⟩ := H.obj j q hj
        refine ⟨ob, ?_, fun ao hao => ?_⟩
        · rw [hoth _ ?_ eb]; exact ho
          rcases Nat.lt_or_ge q.blk w.heap.size with hl | hl
          · exact hl
          · simp [Array.getElem?_eq_none hl] at ho
        · rw [get_push] at hao
          simp only [e, if_false] at hao
          exact OR_mono (Rho.le_ext H.unused) (hh ao hao)
  inj := fun x y p q ax ay hx hy gx gy lx ly e => by
    unfold Rho.ext at hx hy
    rw [get_push] at gx gy
    by_cases ex : x = h.next
    · by_cases ey : y = h.next
      · omega
      · simp only [ex, if_true, ey, if_false] at hx hy gy
        cases hx
        exact absurd e.symm (hnew y q ay hy gy ly)
    · by_cases ey : y = h.next
      · simp only [ex, ey, if_true, if_false] at hx hy gx
        cases hy
        exact absurd e (hnew x p ax hx gx lx)
      · simp only [ex, ey, if_false] at hx hy gx gy; exact H.inj x y p q ax ay hx hy gx gy lx ly e
  bnd := fun j q hj => by
    unfold Rho.ext at hj
    rw [next_push]
    by_cases e : j = h.next
    · omega
    · simp only [e, if_false] at hj
      have := H.bnd j q hj; omega
  new := fun j hj => by
    rw [next_push] at hj
    rw [get_push, if_neg (by omega)]
    exact H.new j (by omega)
  hi := fun j q x hj gx lx rx => by
    unfold Rho.ext at hj
    rw [get_push] at gx
    by_cases e : j = h.next
    · simp only [e, if_true] at hj; cases hj; exact hlow
    · simp only [e, if_false] at hj gx; exact H.hi _ _ _ hj gx lx rx
  glob := fun g hg => by obtain ⟨cap, hc⟩ := H.glob g hg; exact ⟨cap, Rho.le_ext H.unused _ _ hc⟩
  ask := H.ask
  below := H.below.trans ⟨hos, htape, hout, hsz, fun k hk => hoth k (by have := H.below.size; omega) (by omega)⟩
  wf := fun j c n t o' ro k v h1 h2 => by
    rw [get_push] at h1
    by_cases ex : j = h.next
    · simp only [ex, if_true, Option.some.injEq] at h1
      subst h1
      obtain ⟨cs, fz, _, K⟩ := hor
      exact (K.cell k v h2).1
    · simp only [ex, if_false] at h1; exact H.wf j c n t o' ro k v h1 h2

/-- a new block -/
theorem HR.alloc [Atoms] [iF : Forc] {gl : Nat} {r : Rho} {h : AHeap} {w0 w : World} (H : HR gl r h w0 w) {a : AObj} {o : Obj} (cap : Nat)
    (hor : OR (r.ext h.next ⟨w.heap.size, 0, cap⟩) ⟨w.heap.size, 0, cap⟩ o a) :
    HR gl (r.ext h.next ⟨w.heap.size, 0, cap⟩) (h.push a) w0 (w.alloc o) := by
  refine H.add (pb := ⟨w.heap.size, 0, cap⟩) (o := o) ?_ ?_ (by simp) rfl rfl rfl ?_ H.below.size hor
  · show (w.heap.push o)[w.heap.size]? = some o
    simp
  · intro k hk _
    show (w.heap.push o)[k]? = w.heap[k]?
    simp [Array.getElem?_push, Nat.ne_of_lt hk]
  · intro i p b hi _ _ e
    obtain ⟨o', ho', _⟩ := H.obj i p hi
    simp only at e
    rw [e] at ho'
    simp at ho'

/-- draws change nothing -/
theorem HR.drew [Atoms] {gl : Nat} {r : Rho} {h : AHeap} {w0 w : World} (H : HR gl r h w0 w) : HR gl r h w0 w.drew where
  obj := H.obj
  inj := H.inj
  bnd := H.bnd
  new := H.new
  hi := H.hi
  glob := H.glob
  ask := H.ask
  below := H.below.trans ⟨rfl, rfl, rfl, Nat.le_refl _, fun _ _ => rfl⟩
  wf := H.wf

end Go.Am

namespace Go.Am
open Go Go.RowKit Forc

section
variable {gl : Nat} {r : Rho} {h : AHeap} {w0 w : World} {P : Program}

theorem onCells_eq {β : Type} {o : Option AObj} {f : T Value → Nat → TypeId → Bool → Bool → Option β} {y : β} (e : onCells o f = some y) :
    ∃ c n t opn ro, o = some (.cells c n t opn ro) ∧ f c n t opn ro = some y := by
  obtain ⟨a, rfl, e⟩ := ob_eq e
  cases a with
  | cells c n t opn ro => exact ⟨_, _, _, _, _, rfl, e⟩
  | _ => cases e
theorem onMap_eq {β : Type} {o : Option AObj} {f : List MapEntry → Nat → Option β} {y : β} (e : onMap o f = some y) :
    ∃ es c, o = some (.map es c) ∧ f es c = some y := by
  obtain ⟨a, rfl, e⟩ := ob_eq e
  cases a with
  | map es c => exact ⟨_, _, rfl, e⟩
  | _ => cases e
theorem onLoop_eq {β : Type} {o : Option AObj} {f : ALoop → Option β} {y : β} (e : onLoop o f = some y) :
    ∃ l, o = some (.loop l) ∧ f l = some y := by
  obtain ⟨a, rfl, e⟩ := ob_eq e
  cases a with
  | loop l => exact ⟨_, rfl, e⟩
  | _ => cases e
theorem spotless_eq {β : Type} {a : Addr} {f : Nat → Nat → Option β} {y : β} (e : spotless a f = some y) : a.spot = none ∧ f a.block a.off = some y := by
  obtain ⟨b, o, s⟩ := a
  cases s with
  | none => exact ⟨rfl, e⟩
  | some s => cases e
theorem ca_eq {a b : Addr} (e : ca r a = some b) : a.spot = none ∧ ∃ pb, r a.block = some pb ∧ b = ⟨pb.blk, pb.off + a.off, none⟩ := by
  unfold ca at e
  split at e
  · cases e
  · rename_i hs
    split at e
    · rename_i pb hp; cases e; exact ⟨hs, pb, hp, rfl⟩
    · cases e

/-- a known cell -/
theorem cell_of [Atoms] (H : HR gl r h w0 w) {b k n : Nat} {pb : PB} {c : T Value} {t : TypeId} {opn ro : Bool} {v : Value} (hr : r b = some pb)
    (hg : h.get b = some (.cells c n t opn ro)) (hv : c.get k = some v) :
    ∃ v', cv r v = some v' ∧ w.cell? ⟨pb.blk, pb.off + k, none⟩ = some v' := by
  obtain ⟨o, ho, hh⟩ := H.obj b pb hr
  obtain ⟨cs, fz, rfl, K⟩ := hh _ hg
  obtain ⟨_, v', h1, h2⟩ := K.cell k v hv
  exact ⟨v', h1, by simp [World.cell?, ho, h2]⟩

theorem run_load_of {a : Addr} {v : Value} (hc : w.cell? a = some v) : (load a).run P w = .ok v w := by simp [hc]

theorem add_none {b o : Nat} (n : Nat) : (⟨b, o, none⟩ : Addr).add n = ⟨b, o + n, none⟩ := by
  unfold Addr.add
  by_cases e : n = 0
  · subst e; simp
  · simp [e]
theorem addA_eq [iF : Forc] (a : Addr) (n : Nat) : addA a n = a.add n := by
  obtain ⟨b, o, s⟩ := a
  unfold addA Addr.add
  cases n with
  | zero => rfl
  | succ n => simp only [fN_eq]; rfl
theorem ca_add [Atoms] {a b : Addr} (e : ca r a = some b) (n : Nat) : ca r (a.add n) = some (b.add n) := by
  obtain ⟨hs, pb, hp, rfl⟩ := ca_eq e
  obtain ⟨x, o, s⟩ := a
  simp only at hs hp
  subst hs
  rw [add_none, add_none]
  simp [ca, hp, Nat.add_assoc]

theorem loadCellsFrom_of [Atoms] (H : HR gl r h w0 w) {b n : Nat} {pb : PB} {c : T Value} {t : TypeId} {opn ro : Bool} (hr : r b = some pb)
    (hg : h.get b = some (.cells c n t opn ro)) (o : Nat) : ∀ (m i : Nat) (l : List Value) (acc : Array Value), rd c m (o + i) = some l →
    ∃ l', cvs r l = some l' ∧ (loadCellsFrom ⟨pb.blk, pb.off + o, none⟩ i m acc).run P w = .ok (acc ++ ⟨l'⟩) w := by
  intro m
  induction m with
  | zero => intro i l acc e; cases e; exact ⟨[], by simp [cvs], by simp [loadCellsFrom]⟩
  | succ m ih =>
    intro i l acc e
    unfold rd at e
    obtain ⟨v, hv, e⟩ := ob_eq e
    obtain ⟨l1, hl, e⟩ := ob_eq e
    cases e
    obtain ⟨v', h1, h2⟩ := cell_of H hr hg hv
    obtain ⟨l', h3, h4⟩ := ih (i + 1) l1 (acc.push v') hl
    refine ⟨v' :: l', cvs_mk_cons h1 h3, ?_⟩
    simp only [loadCellsFrom, Sem.run_bind, add_none, Nat.add_assoc]
    rw [run_load_of h2]
    simp only [Result.andThen_ok]
    rw [h4]
    simp

theorem loadCells_of [Atoms] (H : HR gl r h w0 w) {a b : Addr} {n : Nat} {l : List Value} (ha : ca r a = some b) (e : loadCellsA h a n = some l) :
    ∃ l', cvs r l = some l' ∧ (loadCells b n).run P w = .ok ⟨l'⟩ w := by
  obtain ⟨hs, pb, hp, rfl⟩ := ca_eq ha
  obtain ⟨_, e⟩ := spotless_eq e
  obtain ⟨c, m, t, opn, ro, hg, e⟩ := onCells_eq e
  obtain ⟨l', h1, h2⟩ := loadCellsFrom_of (P := P) H hp hg a.off n 0 l #[] (by simpa using e)
  exact ⟨l', h1, by unfold loadCells; rw [h2]; simp⟩

theorem load_of [Atoms] (H : HR gl r h w0 w) {t : TypeId} {a b : Addr} {v : Value} (ha : ca r a = some b) (e : loadA (AP.of P) h t a = some v) :
    ∃ v', cv r v = some v' ∧ (loadVar t b).run P w = .ok v' w := by
  unfold loadA at e
  obtain ⟨d, hd, e⟩ := ob_eq e
  have hd' := und_spec hd
  unfold loadVar
  rcases ci_some e with ⟨hagg, e⟩ | ⟨hagg, e⟩
  · obtain ⟨n, hn, e⟩ := ob_eq e
    obtain ⟨i, hi, rfl⟩ := size_spec hn
    obtain ⟨l, hl, e⟩ := ob_eq e
    cases e
    obtain ⟨l', h1, h2⟩ := loadCells_of (P := P) H ha hl
    refine ⟨.agg ⟨l'⟩, by simp only [cv, h1], ?_⟩
    simp [run_isAgg' w hd', hagg, run_sizeOf' w hi, h2]
  · obtain ⟨hs, pb, hp, rfl⟩ := ca_eq ha
    obtain ⟨_, e⟩ := spotless_eq e
    obtain ⟨c, m, t', opn, ro, hg, e⟩ := onCells_eq e
    obtain ⟨v', h1, h2⟩ := cell_of H hp hg e
    exact ⟨v', h1, by simp only [Sem.run_bind, run_isAgg' w hd', hagg, Result.andThen_ok]; simp [h2]⟩

/-! ## writing -/
theorem frozen_of [Atoms] {w : World} {pb : PB} {cs : Array Value} {e : TypeId} {fz : Nat × Nat} {c : T Value} {n : Nat} {opn : Bool} {k : Nat}
    (hb : w.heap[pb.blk]? = some (.cells cs e fz)) (K : CellsR r c n e opn false pb cs fz) (hk : k < cs.size) : w.frozen? ⟨pb.blk, k, none⟩ = false := by
  obtain ⟨lo, hi⟩ := fz
  simp only [World.frozen?, hb]
  rcases K.free rfl with e | e
  · simp only at e; subst e; simp
  · simp only at e; simp only [Bool.and_eq_false_imp, decide_eq_true_eq]; omega

/-- a known cell is written over -/
theorem store_of [Atoms] (H : HR gl r h w0 w) {b k n : Nat} {pb : PB} {c : T Value} {t : TypeId} {opn : Bool} {u v v' : Value} (hr : r b = some pb)
    (hg : h.get b = some (.cells c n t opn false)) (hu : c.get k = some u) (hv : cv r v = some v') (hn : noAgg v = true) :
    ∃ w', (store ⟨pb.blk, pb.off + k, none⟩ v').run P w = .ok () w' ∧ HR gl r (h.put b (.cells (c.set k v) n t opn false)) w0 w' := by
  obtain ⟨o, ho, hh⟩ := H.obj b pb hr
  obtain ⟨cs, fz, rfl, K⟩ := hh _ hg
  obtain ⟨hkn, u', h1, h2⟩ := K.cell k u hu
  have hlt : pb.off + k < cs.size := by
    rcases Nat.lt_or_ge (pb.off + k) cs.size with hl | hl
    · exact hl
    · simp [Array.getElem?_eq_none hl] at h2
  have hcell : w.cell? ⟨pb.blk, pb.off + k, none⟩ = some u' := by simp [World.cell?, ho, h2]
  refine ⟨w.setCell ⟨pb.blk, pb.off + k, none⟩ v', ?_, ?_⟩
  · rw [run_store _ _ _ _ _ (cv_noAgg hv hn), hcell, frozen_of ho K hlt]; simp
  · have hblk : (w.setCell ⟨pb.blk, pb.off + k, none⟩ v').heap[pb.blk]? = some (.cells (cs.setIfInBounds (pb.off + k) v') t fz) := by
      simp [World.setCell, Array.getElem?_modify, ho]
    refine H.put hr hg rfl rfl hblk ?_ (by simp) rfl rfl rfl ?_
    · intro j hj; simp [World.setCell, Array.getElem?_modify, Ne.symm hj]
    · refine ⟨_, fz, rfl, ?_⟩
      refine { K with size := by simpa using K.size, cell := ?_, free := by simpa using K.free }
      intro j x hx
      rw [T.get_set] at hx
      by_cases e : j = k
      · subst e
        simp at hx; subst hx
        exact ⟨hkn, v', hv, by simp [hlt]⟩
      · simp only [e, if_false] at hx
        obtain ⟨a, x', b', c'⟩ := K.cell j x hx
        exact ⟨a, x', b', by
          rw [Array.getElem?_setIfInBounds]
          rw [if_neg (by omega)]; exact c'⟩

theorem noAggs_cons {v : Value} {l : List Value} (e : noAggs (v :: l) = true) : noAgg v = true ∧ noAggs l = true := by
  unfold noAggs at e
  cases h : noAgg v <;> rw [h] at e <;> simp at e
  exact ⟨rfl, e⟩

/-- known cells are written over -/
theorem storeFrom_of [Atoms] {b n : Nat} {pb : PB} {t : TypeId} {opn : Bool} (o : Nat) (hr : r b = some pb) : ∀ (vs vs' : List Value) (i : Nat) (h : AHeap) (w : World) (c c' : T Value), HR gl r h w0 w →
    h.get b = some (.cells c n t opn false) → cvs r vs = some vs' → noAggs vs = true → wr vs (o + i) c = some c' →
    ∃ w', (storeCells ⟨pb.blk, pb.off + o, none⟩ vs' i).run P w = .ok () w' ∧ HR gl r (h.put b (.cells c' n t opn false)) w0 w' := by
  intro vs
  induction vs with
  | nil =>
    intro vs' i h w c c' H hg hv _ e
    simp [cvs] at hv; subst hv
    cases e
    refine ⟨w, by simp [storeCells], H.congr (fun j => ?_) rfl⟩
    rw [get_put]
    by_cases e : j = b
    · subst e; simp [hg]
    · simp [e]
  | cons v vs ih =>
    intro vs' i h w c c' H hg hv hn e
    obtain ⟨v', k, rfl, h1, h2⟩ := cvs_cons hv
    obtain ⟨n1, n2⟩ := noAggs_cons hn
    unfold wr at e
    obtain ⟨u, hu, e⟩ := ob_eq e
    obtain ⟨w1, s1, H1⟩ := store_of (P := P) H hr hg hu h1 n1
    obtain ⟨w2, s2, H2⟩ := ih k (i + 1) _ w1 (c.set (o + i) v) c' H1 (by rw [get_put]; simp) h2 n2 e
    refine ⟨w2, ?_, H2.congr (fun j => ?_) rfl⟩
    · simp only [storeCells, Sem.run_bind, add_none, Nat.add_assoc]
      rw [s1]
      simp only [Result.andThen_ok]
      exact s2
    · rw [get_put, get_put, get_put]
      by_cases e : j = b <;> simp [e]

theorem storeCells_of [Atoms] (H : HR gl r h w0 w) {a b : Addr} {vs vs' : List Value} {h' : AHeap} (ha : ca r a = some b) (hv : cvs r vs = some vs') (e : storeCellsA h a vs = some h') :
    ∃ w', (storeCells b vs').run P w = .ok () w' ∧ HR gl r h' w0 w' := by
  obtain ⟨hs, pb, hp, rfl⟩ := ca_eq ha
  obtain ⟨_, e⟩ := spotless_eq e
  obtain ⟨c, m, t, opn, ro, hg, e⟩ := onCells_eq e
  obtain ⟨rfl, e⟩ := ci_else e
  obtain ⟨hn, e⟩ := ci_then e
  obtain ⟨c', hc, e⟩ := ob_eq e
  cases e
  obtain ⟨w', h1, h2⟩ := storeFrom_of (P := P) a.off hp vs vs' 0 h w c c' H hg hv hn (by simpa using hc)
  exact ⟨w', h1, h2⟩

theorem store_var_of [Atoms] (H : HR gl r h w0 w) {t : TypeId} {a b : Addr} {v v' : Value} {h' : AHeap} (ha : ca r a = some b) (hv : cv r v = some v') (e : storeA (AP.of P) h t a v = some h') :
    ∃ w', (storeVar t b v').run P w = .ok () w' ∧ HR gl r h' w0 w' := by
  unfold storeA at e
  obtain ⟨n, hn, e⟩ := ob_eq e
  obtain ⟨i, hi, rfl⟩ := size_spec hn
  obtain ⟨hl, e⟩ := ci_then e
  have hc := cv_cells hv
  obtain ⟨w', h1, h2⟩ := storeCells_of (P := P) H ha hc e
  refine ⟨w', ?_, h2⟩
  unfold storeVar
  have : v'.cells.size = i.size := by
    rw [← Array.length_toList, cvs_length hc, ← lenL_eq]; exact Nat.eq_of_beq_eq_true hl
  simp [run_sizeOf' w hi, this, h1]

/-! ## new rows -/
theorem ofList_cells [Atoms] {l l' : List Value} (hl : cvs r l = some l') {k : Nat} {v : Value} (hv : (T.ofList l).get k = some v) : k < l.length ∧ ∃ v', cv r v = some v' ∧ l'[k]? = some v' := by
  rw [T.get_ofList] at hv
  refine ⟨?_, cvs_get hl hv⟩
  rcases Nat.lt_or_ge k l.length with h | h
  · exact h
  · simp [h] at hv

/-- a new row; 'more': what is behind the known cells -/
theorem newRow_of [Atoms] [iF : Forc] (H : HR gl r h w0 w) (t : TypeId) {l l' : List Value} (opn : Bool) (more : List Value) (hl : cvs r l = some l') (hm : opn = false → more = []) :
    HR gl (r.ext h.next ⟨w.heap.size, 0, l'.length + more.length⟩) (newRowA h t l opn) w0 (w.alloc (.cells ⟨l' ++ more⟩ t)) ∧
    Ext h.next r (r.ext h.next ⟨w.heap.size, 0, l'.length + more.length⟩) := by
  have hle : r.le (r.ext h.next ⟨w.heap.size, 0, l'.length + more.length⟩) := Rho.le_ext H.unused
  refine ⟨H.alloc _ ⟨_, _, rfl, ?_⟩, Ext.of H⟩
  refine ⟨by simp, ?_, ?_, ?_, fun _ => .inl rfl⟩
  · simp only [lenL_eq, ← cvs_length hl]; omega
  · intro ho; simp [hm ho, lenL_eq, cvs_length hl]
  · intro k v hv
    obtain ⟨h1, v', h2, h3⟩ := ofList_cells hl hv
    refine ⟨by simpa [lenL_eq] using h1, v', cv_mono hle h2, ?_⟩
    have : k < l'.length := by rw [cvs_length hl]; exact h1
    simp only [Nat.zero_add]
    rw [List.getElem?_toArray, List.getElem?_append_left this]; exact h3

theorem cv_ptr [Atoms] {i : Nat} {pb : PB} (hi : r i = some pb) (h0 : pb.off = 0) : cv r (ptrV i) = some (.pointer (some ⟨pb.blk, 0, none⟩)) := by
  simp [ptrV, cv, ca, hi, h0]
end
end Go.Am

namespace Go.Am
open Go Go.RowKit Forc

/-! ## numbers -/
theorem kEq_eq {a b : IntKind} (h : kEq a b = true) : a = b := by cases a <;> cases b <;> first | rfl | (exact absurd h (by decide))
theorem nbeq {a b : Nat} : Nat.beq a b = true ↔ a = b := ⟨Nat.eq_of_beq_eq_true, by rintro rfl; exact Nat.beq_refl a⟩
theorem nble {a b : Nat} : Nat.ble a b = true ↔ a ≤ b := ⟨Nat.le_of_ble_eq_true, Nat.ble_eq_true_of_le⟩
theorem nblt [Atoms] {a b : Nat} : Nat.blt a b = true ↔ a < b := nble
theorem nbeq_f [Atoms] {a b : Nat} : Nat.beq a b = false ↔ a ≠ b := by rw [← Bool.not_eq_true, nbeq]
theorem nble_f [Atoms] {a b : Nat} : Nat.ble a b = false ↔ b < a := by rw [← Bool.not_eq_true, nble]; omega
theorem nblt_f [Atoms] {a b : Nat} : Nat.blt a b = false ↔ b ≤ a := by rw [← Bool.not_eq_true, nblt]; omega

theorem eqI_eq [Atoms] (a b : Int) : eqI a b = (a == b) := by
  rw [Bool.eq_iff_iff, beq_iff_eq]
  cases a <;> cases b <;> simp only [eqI]
  · rw [nbeq]; exact ⟨fun h => by rw [h], fun h => by injection h⟩
  · exact ⟨fun h => (by cases h), fun h => (by cases h)⟩
  · exact ⟨fun h => (by cases h), fun h => (by cases h)⟩
  · rw [nbeq]; exact ⟨fun h => by rw [h], fun h => by injection h⟩
theorem ltI_eq [Atoms] (a b : Int) : ltI a b = decide (a < b) := by
  rw [Bool.eq_iff_iff, decide_eq_true_iff]
  cases a with
  | ofNat a => cases b with
    | ofNat b => show Nat.blt a b = true ↔ _; rw [nblt]; simp
    | negSucc b => exact ⟨fun h => by simp [ltI] at h, fun h => absurd h (by simp only [Int.ofNat_eq_natCast]; omega)⟩
  | negSucc a => cases b with
    | ofNat b => exact ⟨fun _ => by simp only [Int.ofNat_eq_natCast]; omega, fun _ => rfl⟩
    | negSucc b => show Nat.blt b a = true ↔ _; rw [nblt]; omega

theorem wrapU_ok (m : Nat) (hm : 0 < m) (n : Int) : wrapU m n = n % (m : Int) := by
  cases n with
  | ofNat a => rfl
  | negSucc a =>
    show ((m - 1 - a % m : Nat) : Int) = Int.negSucc a % (m : Int)
    have : a % m < m := Nat.mod_lt _ hm
    rw [Int.negSucc_emod _ (by omega)]
    omega
theorem wrap_i64_in (n : Int) (h1 : -9223372036854775808 ≤ n) (h2 : n ≤ 9223372036854775807) : IntKind.wrap .i64 n = n := by
  simp only [IntKind.wrap, IntKind.bits, IntKind.signed]
  simp
  omega
theorem wrapI64_ok [Atoms] (n : Int) : wrapI64 n = IntKind.wrap .i64 n := by
  cases n with
  | ofNat a =>
    show ci (Nat.ble a 9223372036854775807) (Int.ofNat a) (IntKind.wrap .i64 (.ofNat a)) = _
    by_cases h : a ≤ 9223372036854775807
    · rw [nble.2 h, ci_true, wrap_i64_in] <;> simp only [Int.ofNat_eq_natCast] <;> omega
    · rw [nble_f.2 (by omega), ci_false]
  | negSucc a =>
    show ci (Nat.ble a 9223372036854775807) (Int.negSucc a) (IntKind.wrap .i64 (.negSucc a)) = _
    by_cases h : a ≤ 9223372036854775807
    · rw [nble.2 h, ci_true, wrap_i64_in] <;> omega
    · rw [nble_f.2 (by omega), ci_false]
theorem wrapA_ok [Atoms] (k : IntKind) (n : Int) : wrapA k n = k.wrap n := by
  cases k <;> simp only [wrapA] <;> first
    | exact wrapI64_ok n
    | rfl
    | (rw [wrapU_ok _ (by decide)]; simp [IntKind.wrap, IntKind.bits, IntKind.signed])

theorem mkI_eq [iF : Forc] (k : IntKind) (n : Int) : mkI k n = some (.int k n) := by cases n <;> simp [mkI]
theorem mkB_eq [iF : Forc] (b : Bool) : mkB b = some (.bool b) := by simp [mkB]

theorem modN_eq (k : IntKind) : modN k = 2 ^ k.bits := by cases k <;> rfl
theorem bitsN_eq (k : IntKind) : bitsN k = k.bits := by cases k <;> rfl
theorem unsN_eq [Atoms] (k : IntKind) (n : Int) : unsN k n = (BitVec.ofInt k.bits n).toNat := by
  rw [BitVec.toNat_ofInt]
  cases n with
  | ofNat a =>
    simp only [unsN, modN_eq]
    show a % 2 ^ k.bits = _
    have : Int.ofNat a % ((2 ^ k.bits : Nat) : Int) = ((a % 2 ^ k.bits : Nat) : Int) := rfl
    simp only [this]; rfl
  | negSucc a =>
    simp only [unsN, modN_eq]
    show (2 ^ k.bits - 1) - a % 2 ^ k.bits = _
    have hp : 0 < 2 ^ k.bits := Nat.two_pow_pos _
    have hl : a % 2 ^ k.bits < 2 ^ k.bits := Nat.mod_lt _ hp
    rw [Int.negSucc_emod _ (by omega)]
    omega

section
variable {P : Program} {w : World}
theorem intBin_ok [Atoms] [iF : Forc] {op : BinOp} {k : IntKind} {x y : Int} {v : Value} (h : intBin op k x y = some v) (t : TypeId) :
    (binOp op t (.int k x) (.int k y)).run P w = .ok v w := by
  have div : ∀ {y : Int}, eqI y 0 = false → ¬ y = 0 := by
    intro y hy; rw [eqI_eq] at hy; simpa using hy
  cases op <;> simp only [intBin, mkI_eq, mkB_eq, wrapA_ok, eqI_eq, ltI_eq, unsN_eq] at h
  case add => cases h; simp [binOp, Op.intArith, Int.add_def]
  case sub => cases h; simp [binOp, Op.intArith]; rfl
  case mul => cases h; simp [binOp, Op.intArith, Int.mul_def]
  case quo => obtain ⟨hy, h⟩ := ci_else h; cases h; have hy' : ¬ y = 0 := (by simpa using hy); simp [binOp, Op.intDiv, hy']
  case rem => obtain ⟨hy, h⟩ := ci_else h; cases h; have hy' : ¬ y = 0 := (by simpa using hy); simp [binOp, Op.intDiv, hy']
  case and => cases h; simp [binOp, Op.intBits]
  case or => cases h; simp [binOp, Op.intBits]
  case xor => cases h; simp [binOp, Op.intBits]
  case andNot =>
    cases h
    simp only [binOp, Op.intBits]
    simp [modN_eq]
  case eql => cases h; simp [binOp, Op.intCmp]
  case neq => cases h; simp [binOp, Op.intCmp]; rfl
  case lss => cases h; simp [binOp, Op.intCmp]
  case leq => cases h; simp [binOp, Op.intCmp]; rw [Bool.eq_iff_iff]; simp
  case gtr => cases h; simp [binOp, Op.intCmp]
  case geq => cases h; simp [binOp, Op.intCmp]; rw [Bool.eq_iff_iff]; simp
  case shl => cases h
  case shr => cases h

theorem intBin_int [Atoms] [iF : Forc] {op : BinOp} {k : IntKind} {x y : Int} {v : Value} (h : intBin op k x y = some v) (r : Rho) : cv r v = some v := by
  have hc : ∀ (c : Bool) (k : IntKind) (n : Int), ci c none (some (Value.int k n)) = some v → cv r v = some v := by
    intro c k n h
    obtain ⟨_, h⟩ := ci_else h
    cases h; rfl
  cases op <;> simp only [intBin, mkI_eq, mkB_eq] at h <;> first
    | (cases h; rfl)
    | exact hc _ _ _ h
    | cases h

theorem shift_ok [Atoms] [iF : Forc] {op : BinOp} {k k' : IntKind} {x y : Int} {v : Value} (h : shiftA op k x y = some v) (t : TypeId) (hs : isShift op = true) :
    (binOp op t (.int k x) (.int k' y)).run P w = .ok v w ∧ ∀ r, cv r v = some v := by
  have hn : ∀ {m : Nat}, natI y = some m → y = (m : Int) := by
    intro m hm
    cases y with
    | ofNat a => cases hm; rfl
    | negSucc a => cases hm
  have hmin : ∀ m : Nat, ci (Nat.ble m (bitsN k)) m (bitsN k) = min m k.bits := by
    intro m
    rw [bitsN_eq]
    by_cases h : m ≤ k.bits
    · rw [nble.2 h, ci_true]; omega
    · rw [nble_f.2 (by omega), ci_false]; omega
  cases op <;> simp [isShift] at hs
  case shl =>
    simp only [shiftA] at h
    obtain ⟨m, hm, h⟩ := ob_eq h
    rw [hmin, mkI_eq, wrapA_ok] at h
    cases h
    have := hn hm; subst this
    refine ⟨?_, fun _ => rfl⟩
    simp only [binOp, Op.shift]
    rw [if_neg (by omega)]
    simp only [Int.toNat_natCast, Sem.run_pure]
    congr 3
  case shr =>
    simp only [shiftA] at h
    obtain ⟨m, hm, h⟩ := ob_eq h
    rw [hmin, mkI_eq] at h
    cases h
    have := hn hm; subst this
    refine ⟨?_, fun _ => rfl⟩
    simp only [binOp, Op.shift]
    rw [if_neg (by omega)]
    simp only [Int.toNat_natCast, Sem.run_pure]
    congr 3
    have hp : ((2 : Int) ^ min m k.bits) = ((2 ^ min m k.bits : Nat) : Int) := by rw [Int.natCast_pow]; rfl
    cases x with
    | ofNat a =>
      show _ = ((a / 2 ^ min m k.bits : Nat) : Int)
      rw [hp, Int.fdiv_eq_ediv_of_nonneg _ (Int.natCast_nonneg _)]
      rfl
    | negSucc a =>
      show (Int.negSucc a).fdiv _ = (Int.negSucc a).fdiv ((2 ^ min m k.bits : Nat) : Int)
      rw [hp]

/-! ## texts -/
theorem u8_eq {a b : UInt8} (h : a.toNat = b.toNat) : a = b := UInt8.toNat_inj.1 h
theorem eqB_eq [Atoms] : ∀ (a b : List UInt8), eqB a b = (a == b)
  | [], [] => rfl
  | [], _ :: _ => rfl
  | _ :: _, [] => rfl
  | a :: x, b :: y => by
    simp only [eqB]
    rw [Bool.eq_iff_iff, beq_iff_eq]
    by_cases h : a.toNat = b.toNat
    · rw [nbeq.2 h, ci_true, eqB_eq x y, beq_iff_eq]
      have := u8_eq h; subst this
      simp
    · rw [nbeq_f.2 h, ci_false]
      constructor
      · intro h'; cases h'
      · intro h'; injection h' with h1 h2; exact absurd (by rw [h1]) h
theorem ltB_eq [Atoms] : ∀ (a b : List UInt8), ltB a b = Op.bytesLess a b
  | [], [] => rfl
  | [], _ :: _ => rfl
  | _ :: _, [] => rfl
  | a :: x, b :: y => by
    simp only [ltB, Op.bytesLess]
    by_cases h : a.toNat < b.toNat
    · rw [nblt.2 h, ci_true]
      have : a < b := UInt8.lt_iff_toNat_lt.2 h
      simp [this]
    · rw [nblt_f.2 (by omega), ci_false]
      have hn : ¬ a < b := fun h' => h (UInt8.lt_iff_toNat_lt.1 h')
      by_cases e : a.toNat = b.toNat
      · have := u8_eq e; subst this
        rw [nbeq.2 rfl, ci_true, ltB_eq x y]
        simp [hn]
      · rw [nbeq_f.2 e, ci_false]
        have : ¬ a = b := fun h' => e (by rw [h'])
        simp [hn, this]

theorem less_flip : ∀ (a b : List UInt8), Op.bytesLess b a = !(Op.bytesLess a b || a == b)
  | [], [] => rfl
  | [], _ :: _ => rfl
  | _ :: _, [] => rfl
  | a :: x, b :: y => by
    simp only [Op.bytesLess]
    rw [less_flip x y]
    by_cases h : a = b
    · subst h
      simp [UInt8.lt_irrefl]
    · have h' : ¬ b = a := fun e => h e.symm
      by_cases hl : a < b
      · have : ¬ b < a := UInt8.lt_asymm hl
        simp [h', hl, this]
      · have : b < a := by
          rcases UInt8.le_total a b with k | k
          · exact absurd (UInt8.lt_of_le_of_ne k h) hl
          · exact UInt8.lt_of_le_of_ne k h'
        simp [h, hl, this]

theorem strOf_eq (l : List UInt8) : strOf l = .string ⟨l.toArray⟩ := rfl
theorem size_strL (s : ByteArray) : (strL s).length = s.size := by
  unfold strL; rw [Array.length_toList]; rfl

theorem strBin_ok [Atoms] [iF : Forc] {op : BinOp} {a b : ByteArray} {v : Value} (h : strBin op a b = some v) (t : TypeId) :
    (binOp op t (.string a) (.string b)).run P w = .ok v w ∧ ∀ r, cv r v = some v := by
  cases op <;> simp only [strBin, mkB_eq, eqB_eq, ltB_eq] at h <;> first | (cases h; done) | skip
  case add =>
    obtain ⟨hl, h⟩ := ci_then h
    cases h
    rw [lenL_eq, lenL_eq, size_strL, size_strL] at hl
    have hl := nble.1 hl
    refine ⟨?_, fun _ => rfl⟩
    have hm : ¬ (((a.size + b.size : Nat) : Int) > IntKind.i64.max) := by
      have : a.size + b.size ≤ 4294967296 := hl
      simp only [IntKind.max, IntKind.signed, IntKind.bits]
      simp; omega
    simp only [binOp, Op.stringOp]
    rw [if_neg hm]
    simp only [Sem.run_pure]
    congr 2
  case eql => cases h; exact ⟨by simp [binOp, Op.stringOp, strL, ByteArray.toList_eq], fun _ => rfl⟩
  case neq => cases h; exact ⟨by simp [binOp, Op.stringOp, strL, ByteArray.toList_eq], fun _ => rfl⟩
  case lss => cases h; exact ⟨by simp [binOp, Op.stringOp, strL, ByteArray.toList_eq], fun _ => rfl⟩
  case geq => cases h; exact ⟨by simp [binOp, Op.stringOp, strL, ByteArray.toList_eq], fun _ => rfl⟩
  case leq =>
    cases h
    refine ⟨?_, fun _ => rfl⟩
    simp only [binOp, Op.stringOp, Sem.run_pure, strL, ByteArray.toList_eq]
    rw [less_flip a.data.toList b.data.toList, Bool.not_not]
  case gtr =>
    cases h
    refine ⟨?_, fun _ => rfl⟩
    simp only [binOp, Op.stringOp, Sem.run_pure, strL, ByteArray.toList_eq]
    rw [less_flip a.data.toList b.data.toList]

theorem pureRun_ok {α : Type} {s : Sem α} {a : α} (h : pureRun P s = some a) : s.run P w = .ok a w := by
  induction s with
  | pure x => cases h; rfl
  | program k ih => exact ih _ h
  | mark m k ih => exact ih h
  | _ => cases h
theorem litO_ok [Atoms] {o : Option Value} {v : Value} (h : litO o = some v) : o = some v ∧ ∀ r, cv r v = some v := by
  obtain ⟨x, rfl, h⟩ := ob_eq h
  obtain ⟨hl, h⟩ := ci_then h
  cases h
  exact ⟨rfl, fun _ => lit_spec hl⟩
end
end Go.Am

namespace Go.Am
open Go Go.RowKit Forc

section
variable {gl : Nat} {r : Rho} {h : AHeap} {w0 w : World} {P : Program}

/-! ## what values of a kind stand for -/
theorem cv_int_eq [Atoms] {k : IntKind} {n : Int} {v : Value} (e : cv r (.int k n) = some v) : v = .int k n := by simp [cv] at e; exact e.symm
theorem cv_bool_eq [Atoms] {b : Bool} {v : Value} (e : cv r (.bool b) = some v) : v = .bool b := by simp [cv] at e; exact e.symm
theorem cv_str_eq [Atoms] {s : ByteArray} {v : Value} (e : cv r (.string s) = some v) : v = .string s := by simp [cv] at e; exact e.symm
theorem cv_float_eq [Atoms] {k : FloatKind} {n : Nat} {v : Value} (e : cv r (.float k n) = some v) : v = .float k n := by simp [cv] at e; exact e.symm
theorem cv_agg_eq [Atoms] {l : Array Value} {v : Value} (e : cv r (.agg l) = some v) : ∃ l', v = .agg ⟨l'⟩ ∧ cvs r l.toList = some l' := by
  obtain ⟨l⟩ := l
  simp only [cv] at e
  split at e
  · rename_i l' hl; cases e; exact ⟨l', rfl, hl⟩
  · cases e
theorem cv_tuple_eq [Atoms] {l : Array Value} {v : Value} (e : cv r (.tuple l) = some v) : ∃ l', v = .tuple ⟨l'⟩ ∧ cvs r l.toList = some l' := by
  obtain ⟨l⟩ := l
  simp only [cv] at e
  split at e
  · rename_i l' hl; cases e; exact ⟨l', rfl, hl⟩
  · cases e
theorem cv_iface_eq [Atoms] {t : TypeId} {x v : Value} (e : cv r (.iface t x) = some v) : ∃ x', v = .iface t x' ∧ cv r x = some x' := by
  simp only [cv] at e
  split at e
  · rename_i l' hl; cases e; exact ⟨l', rfl, hl⟩
  · cases e
theorem cv_ptr_eq [Atoms] {a : Addr} {v : Value} (e : cv r (.pointer (some a)) = some v) : ∃ b, v = .pointer (some b) ∧ ca r a = some b := by
  simp only [cv] at e
  split at e
  · rename_i b hb; cases e; exact ⟨b, rfl, hb⟩
  · cases e
theorem cv_ptr0_eq [Atoms] {v : Value} (e : cv r (.pointer none) = some v) : v = .pointer none := by simp [cv] at e; exact e.symm
theorem cv_func_eq [Atoms] {f : Fn} {a b : Array Value} {v : Value} (e : cv r (.func f a b) = some v) : ∃ f' a' b', v = .func f' ⟨a'⟩ ⟨b'⟩ ∧ cfn r f = some f' ∧ cvs r a.toList = some a' ∧ cvs r b.toList = some b' := by
  obtain ⟨a⟩ := a; obtain ⟨b⟩ := b
  simp only [cv] at e
  split at e
  · rename_i f' a' b' h1 h2 h3; cases e; exact ⟨f', a', b', rfl, h1, h2, h3⟩
  · cases e
theorem cv_map_eq [Atoms] {m : Nat} {v : Value} (e : cv r (.map (some m)) = some v) : ∃ pb, v = .map (some pb.blk) ∧ r m = some pb := by
  simp only [cv] at e
  split at e
  · rename_i pb hb; cases e; exact ⟨pb, rfl, hb⟩
  · cases e
/-- a slice's shape -/
theorem cv_slice_some [Atoms] {a : Addr} {l c : Nat} {v : Value} (e : cv r (.slice (some a) l c) = some v) : ∃ b c', v = .slice (some b) l c' := by
  simp only [cv, cslice] at e
  repeat' split at e
  all_goals first | (cases e; done) | skip
  · cases e; exact ⟨_, _, rfl⟩
  · cases e; exact ⟨_, _, rfl⟩
  · rename_i hh _; obtain ⟨rfl, _⟩ := hh; cases e; exact ⟨_, _, rfl⟩
  · rename_i hh _; obtain ⟨rfl, _⟩ := hh; cases e; exact ⟨_, _, rfl⟩
theorem cv_slice_none [Atoms] {l c : Nat} {v : Value} (e : cv r (.slice none l c) = some v) : v = .slice none l c := by simp [cv] at e; exact e.symm
/-- a slice that is not one of the doubtful empty ones: its first cell's address -/
theorem cv_slice_addr [Atoms] {a : Addr} {l c : Nat} {v : Value} (hc : c < capEmp) (e : cv r (.slice (some a) l c) = some v) : ∃ b c', v = .slice (some b) l c' ∧ ca r a = some b := by
  simp only [cv, cslice] at e
  split at e
  · cases e
  · rename_i hs
    split at e
    · cases e
    · rename_i pb hp
      have hca : ca r a = some ⟨pb.blk, pb.off + a.off, none⟩ := by simp [ca, hs, hp]
      split at e
      · cases e; exact ⟨_, _, rfl, hca⟩
      · split at e
        · cases e; exact ⟨_, _, rfl, hca⟩
        · cases e

/-- numbers as indexes -/
theorem natOf_eq {v : Value} {n : Nat} (e : natOf v = some n) : ∃ k, v = .int k (n : Int) := by
  cases v with
  | int k i =>
    cases i with
    | ofNat a => cases e; exact ⟨k, rfl⟩
    | negSucc a => cases e
  | _ => cases e

/-! ## parts -/
theorem part_of [Atoms] {t : TypeId} {cs cs' : List Value} {off : Nat} {v : Value} (hc : cvs r cs = some cs') (e : partA (AP.of P) t cs off = some v) :
    ∃ v', cv r v = some v' ∧ (part t ⟨cs'⟩ off).run P w = .ok v' w := by
  unfold partA at e
  obtain ⟨d, hd, e⟩ := ob_eq e
  have hd' := und_spec hd
  unfold part
  rcases ci_some e with ⟨hagg, e⟩ | ⟨hagg, e⟩
  · obtain ⟨n, hn, e⟩ := ob_eq e
    obtain ⟨i, hi, rfl⟩ := size_spec hn
    cases e
    refine ⟨.agg ⟨(cs'.take (off + i.size)).drop off⟩, ?_, ?_⟩
    · simp only [cv]
      have := cvs_drop off (cvs_take (off + i.size) hc)
      show (match cvs r ((cs.take (off + i.size)).drop off) with | some l' => _ | none => _) = _
      rw [this]
    · simp only [Sem.run_bind, run_isAgg' w hd', hagg, Result.andThen_ok, if_true, run_sizeOf' w hi]
      simp [List.take_drop]
  · rw [nth_eq] at e
    obtain ⟨v', h1, h2⟩ := cvs_get hc e
    refine ⟨v', h1, ?_⟩
    simp only [Sem.run_bind, run_isAgg' w hd', hagg, Result.andThen_ok]
    simp [h2]

/-! ## equality -/
theorem bEq_eq (a b : Bool) : bEq a b = (a == b) := by cases a <;> cases b <;> rfl

def EqOk [Atoms] (P : Program) (r : Rho) (d : Nat) (eq : TypeId → Value → Value → Option Bool) : Prop :=
  ∀ t x y b x' y' w, eq t x y = some b → cv r x = some x' → cv r y = some y' → (Op.equalIn d t x' y').run P w = .ok b w

theorem eqFields_of [Atoms] {eq : TypeId → Value → Value → Option Bool} {d : Nat} (he : EqOk P r d eq) :
    ∀ (fs : List Field) (xs ys : List Value) (b : Bool) (xs' ys' : List Value) (w : World), eqFields (AP.of P) eq fs xs ys = some b → cvs r xs = some xs' → cvs r ys = some ys' →
      (Op.eqFields d ⟨xs'⟩ ⟨ys'⟩ fs).run P w = .ok b w
  | [], _, _, _, _, _, w, e, _, _ => by cases e; simp [Op.eqFields]
  | f :: fs, xs, ys, b, xs', ys', w, e, hx, hy => by
    unfold eqFields at e
    obtain ⟨hn, e⟩ := ci_else e
    have hn' : f.name ≠ "_" := by simpa using hn
    obtain ⟨x, h1, e⟩ := ob_eq e
    obtain ⟨y, h2, e⟩ := ob_eq e
    obtain ⟨c, h3, e⟩ := ob_eq e
    obtain ⟨x', a1, a2⟩ := part_of (w := w) hx h1
    obtain ⟨y', b1, b2⟩ := part_of (w := w) hy h2
    have h4 := he _ _ _ _ _ _ w h3 a1 b1
    unfold Op.eqFields
    rw [if_pos hn']
    simp only [Sem.run_bind, a2, b2, h4, Result.andThen_ok]
    cases c
    · simp only [ci_false] at e; cases e; simp
    · simp only [ci_true] at e
      simpa using eqFields_of he fs xs ys b xs' ys' w e hx hy

theorem eqElems_of [Atoms] {eq : TypeId → Value → Value → Option Bool} {d : Nat} (he : EqOk P r d eq) {et : TypeId} {n : Nat} {xs ys xs' ys' : List Value} (hx : cvs r xs = some xs') (hy : cvs r ys = some ys') :
    ∀ (m i : Nat) (b : Bool) (w : World), eqElems (AP.of P) eq et n xs ys m i = some b →
      (Op.eqItems d et n ⟨xs'⟩ ⟨ys'⟩ (List.range' i m)).run P w = .ok b w
  | 0, i, b, w, e => by cases e; simp [Op.eqItems]
  | m + 1, i, b, w, e => by
    unfold eqElems at e
    obtain ⟨x, h1, e⟩ := ob_eq e
    obtain ⟨y, h2, e⟩ := ob_eq e
    obtain ⟨c, h3, e⟩ := ob_eq e
    obtain ⟨x', a1, a2⟩ := part_of (w := w) hx h1
    obtain ⟨y', b1, b2⟩ := part_of (w := w) hy h2
    have h4 := he _ _ _ _ _ _ w h3 a1 b1
    have a2' : Sem.run P (part et ⟨xs'⟩ (i * n)) w = _ := a2
    have b2' : Sem.run P (part et ⟨ys'⟩ (i * n)) w = _ := b2
    rw [List.range'_succ]
    unfold Op.eqItems
    simp only [Sem.run_bind, a2', b2', h4, Result.andThen_ok]
    cases c
    · simp only [ci_false] at e; cases e; simp
    · simp only [ci_true] at e
      simpa using eqElems_of he hx hy m (i + 1) b w e

theorem cv_ptr_none [Atoms] {a : Option Addr} {v : Value} (e : cv r (.pointer a) = some v) : ∃ b, v = .pointer b ∧ b.isNone = a.isNone := by
  cases a with
  | none => exact ⟨none, cv_ptr0_eq e, rfl⟩
  | some a => obtain ⟨b, h, _⟩ := cv_ptr_eq e; exact ⟨some b, h, rfl⟩
theorem cv_slice_isnone [Atoms] {a : Option Addr} {l c : Nat} {v : Value} (e : cv r (.slice a l c) = some v) : ∃ b l' c', v = .slice b l' c' ∧ b.isNone = a.isNone := by
  cases a with
  | none => exact ⟨none, l, c, cv_slice_none e, rfl⟩
  | some a => obtain ⟨b, c', h⟩ := cv_slice_some e; exact ⟨some b, l, c', h, rfl⟩
theorem cv_map_isnone [Atoms] {a : Option Nat} {v : Value} (e : cv r (.map a) = some v) : ∃ b, v = .map b ∧ b.isNone = a.isNone := by
  cases a with
  | none => simp [cv] at e; exact ⟨none, e.symm, rfl⟩
  | some a => obtain ⟨pb, h, _⟩ := cv_map_eq e; exact ⟨some pb.blk, h, rfl⟩

theorem nilEq {a b : Bool} {c : Bool} (e : ci a (some b) (ci b (some false) none) = some c) : (a = true ∧ c = b) ∨ (a = false ∧ b = true ∧ c = false) := by
  cases a <;> cases b <;> simp at e <;> simp [e]

set_option maxHeartbeats 1600000 in
theorem equalA_of [Atoms] (r : Rho) : ∀ (d D : Nat), d ≤ D → EqOk P r D (equalA (AP.of P) d)
  | 0, _, _, _, _, _, _, _, _, _, e, _, _ => by cases e
  | d + 1, D, hD, t, x, y, b, x', y', w, e, hx, hy => by
    obtain ⟨D, rfl⟩ : ∃ k, D = k + 1 := ⟨D - 1, by omega⟩
    unfold equalA at e
    obtain ⟨ds, hd, e⟩ := ob_eq e
    have hd := und_spec hd
    have hrun : ∀ w, (underlying t).run P w = .ok ds w := fun w => run_underlying' w hd
    cases ds <;> simp only [eqD] at e <;> try (cases e; done)
    case bool =>
      cases x <;> cases y <;> simp only at e <;> try (cases e; done)
      cases e
      rw [cv_bool_eq hx, cv_bool_eq hy, bEq_eq]
      simp [Op.equalIn, hrun]
    case int =>
      cases x <;> cases y <;> simp only at e <;> try (cases e; done)
      obtain ⟨hk, e2⟩ := ci_then e
      have hkk := kEq_eq hk
      clear e
      cases e2
      rw [cv_int_eq hx, cv_int_eq hy, eqI_eq]
      simp [Op.equalIn, hrun, hkk]
    case string =>
      cases x <;> cases y <;> simp only at e <;> try (cases e; done)
      cases e
      rw [cv_str_eq hx, cv_str_eq hy, eqB_eq]
      simp only [Op.equalIn, Sem.run_bind, hrun, Result.andThen_ok, Sem.run_pure, beq_toListBytes, ByteArray.toList_eq, strL]
    case pointer =>
      cases x <;> cases y <;> simp only at e <;> try (cases e; done)
      obtain ⟨a, rfl, ha⟩ := cv_ptr_none hx
      obtain ⟨c, rfl, hc⟩ := cv_ptr_none hy
      rw [← ha, ← hc] at e
      rcases nilEq e with ⟨h1, rfl⟩ | ⟨h1, h2, rfl⟩
      · cases a <;> simp at h1; simp [Op.equalIn, hrun]
      · cases a <;> cases c <;> simp at h1 h2; simp [Op.equalIn, hrun]
    case slice =>
      cases x <;> cases y <;> simp only at e <;> try (cases e; done)
      obtain ⟨a, _, _, rfl, ha⟩ := cv_slice_isnone hx
      obtain ⟨c, _, _, rfl, hc⟩ := cv_slice_isnone hy
      rw [← ha, ← hc] at e
      rcases nilEq e with ⟨h1, rfl⟩ | ⟨h1, h2, rfl⟩
      · cases a <;> simp at h1; simp [Op.equalIn, hrun]
      · cases a <;> cases c <;> simp at h1 h2; simp [Op.equalIn, hrun]
    case map =>
      cases x <;> cases y <;> simp only at e <;> try (cases e; done)
      obtain ⟨a, rfl, ha⟩ := cv_map_isnone hx
      obtain ⟨c, rfl, hc⟩ := cv_map_isnone hy
      rw [← ha, ← hc] at e
      rcases nilEq e with ⟨h1, rfl⟩ | ⟨h1, h2, rfl⟩
      · cases a <;> simp at h1; simp [Op.equalIn, hrun]
      · cases a <;> cases c <;> simp at h1 h2; simp [Op.equalIn, hrun]
    case interface =>
      cases x <;> cases y <;> simp only at e <;> try (cases e; done)
      · cases e
        obtain ⟨_, rfl, _⟩ := cv_iface_eq hx
        simp [cv] at hy; subst hy
        simp [Op.equalIn, hrun]
      · cases e
        obtain ⟨_, rfl, _⟩ := cv_iface_eq hy
        simp [cv] at hx; subst hx
        simp [Op.equalIn, hrun]
      · cases e
        simp [cv] at hx hy; subst hx; subst hy
        simp [Op.equalIn, hrun]
    case func =>
      cases x <;> cases y <;> simp only at e <;> try (cases e; done)
      · cases e
        obtain ⟨_, _, _, rfl, _⟩ := cv_func_eq hx
        simp [cv] at hy; subst hy
        simp [Op.equalIn, hrun]
      · cases e
        obtain ⟨_, _, _, rfl, _⟩ := cv_func_eq hy
        simp [cv] at hx; subst hx
        simp [Op.equalIn, hrun]
      · cases e
        simp [cv] at hx hy; subst hx; subst hy
        simp [Op.equalIn, hrun]
    case struct fs _ =>
      cases x <;> cases y <;> simp only at e <;> try (cases e; done)
      obtain ⟨hs, e⟩ := ci_else e
      obtain ⟨xs, rfl, hxs⟩ := cv_agg_eq hx
      obtain ⟨ys, rfl, hys⟩ := cv_agg_eq hy
      have hf : P.fieldsOf t = fs := by simp [Program.fieldsOf, hd]
      rw [run_equalIn_struct (P := P) w D t _ _ (by rw [hf]; exact hd) hs, hf]
      exact eqFields_of (equalA_of r d D (by omega)) _ _ _ _ _ _ w e hxs hys
    case array len et _ =>
      cases x <;> cases y <;> simp only at e <;> try (cases e; done)
      obtain ⟨n, hn, e⟩ := ob_eq e
      obtain ⟨i, hi, rfl⟩ := size_spec hn
      obtain ⟨xs, rfl, hxs⟩ := cv_agg_eq hx
      obtain ⟨ys, rfl, hys⟩ := cv_agg_eq hy
      rw [run_equalIn_array w D _ _ hd hi, List.range_eq_range']
      have : P.cellsOf et = i.size := by simp [Program.cellsOf, hi]
      rw [this]
      exact eqElems_of (equalA_of r d D (by omega)) hxs hys _ _ _ w e
end
end Go.Am

namespace Go.Am
open Go Go.RowKit Forc

section
variable {gl : Nat} {r : Rho} {h : AHeap} {w0 w : World} {P : Program}

theorem equal_of [Atoms] {t : TypeId} {x y x' y' : Value} {b : Bool} (e : equalA (AP.of P) 100 t x y = some b) (hx : cv r x = some x') (hy : cv r y = some y') :
    (Op.equal t x' y').run P w = .ok b w := equalA_of r 100 10000 (by decide) _ _ _ _ _ _ w e hx hy

/-- neither a number, nor a text, nor an interface that is nil, nor an aggregate -/
def odd : Value → Bool
  | .int _ _ | .string _ | .float _ _ | .complex _ _ _ | .nilIface | .agg _ | .chan _ => false
  | _ => true
theorem cv_odd [Atoms] {v v' : Value} (e : cv r v = some v') (ho : odd v = true) : odd v' = true := by
  cases v with
  | int => cases ho
  | string => cases ho
  | float => cases ho
  | complex => cases ho
  | nilIface => cases ho
  | agg => cases ho
  | bool b => rw [cv_bool_eq e]; rfl
  | pointer a => obtain ⟨b, rfl, _⟩ := cv_ptr_none e; rfl
  | slice a l c => obtain ⟨_, _, _, rfl, _⟩ := cv_slice_isnone e; rfl
  | map a => obtain ⟨_, rfl, _⟩ := cv_map_isnone e; rfl
  | chan a => cases ho
  | func f a b => obtain ⟨_, _, _, rfl, _⟩ := cv_func_eq e; rfl
  | nilFunc => simp [cv] at e; subst e; rfl
  | iface t x => obtain ⟨_, rfl, _⟩ := cv_iface_eq e; rfl
  | tuple l => obtain ⟨_, rfl, _⟩ := cv_tuple_eq e; rfl

theorem run_eq_odd {op : BinOp} {t : TypeId} {x y : Operand} {a b : Value} {c : Bool} (ho : odd a = true) (he : (Op.equal t a b).run P w = .ok c w) (hop : op = .eql ∨ op = .neq) :
    (do eqGuard op t x y a b; binOp op t a b : Sem Value).run P w = .ok (.bool (if op = .eql then c else !c)) w := by
  rcases hop with rfl | rfl <;> cases a <;> simp [odd] at ho <;> cases b <;> simp [eqGuard, binOp, he]

theorem eqOp_of [Atoms] [iF : Forc] {op : BinOp} {t : TypeId} {x y x' y' v : Value} (e : eqOp (AP.of P) op t x y = some v) (hx : cv r x = some x') (hy : cv r y = some y') :
    (op = .eql ∨ op = .neq) ∧ ∃ c, (∀ w, (Op.equal t x' y').run P w = .ok c w) ∧ v = .bool (if op = .eql then c else !c) := by
  cases op <;> simp only [eqOp] at e <;> try (cases e; done)
  · obtain ⟨c, h1, e⟩ := ob_eq e
    rw [mkB_eq] at e; cases e
    exact ⟨.inl rfl, c, fun w => equal_of h1 hx hy, by simp⟩
  · obtain ⟨c, h1, e⟩ := ob_eq e
    rw [mkB_eq] at e; cases e
    exact ⟨.inr rfl, c, fun w => equal_of h1 hx hy, by simp⟩

theorem isConst_eq (x : Operand) : isConst x = (x matches .const _) := by cases x <;> rfl

theorem bin_of [Atoms] [iF : Forc] {op : BinOp} {t : TypeId} {x y : Operand} {a b a' b' v : Value} (ha : cv r a = some a') (hb : cv r b = some b')
    (e : binV (AP.of P) op t (isConst x || isConst y) a b = some v) :
    cv r v = some v ∧ (do eqGuard op t x y a' b'; binOp op t a' b' : Sem Value).run P w = .ok v w := by
  have viaEq : ∀ {a b a' b' : Value}, odd a = true → cv r a = some a' → cv r b = some b' → eqOp (AP.of P) op t a b = some v →
      cv r v = some v ∧ (do eqGuard op t x y a' b'; binOp op t a' b' : Sem Value).run P w = .ok v w := by
    intro a b a' b' ho ha hb e
    obtain ⟨hop, c, h1, rfl⟩ := eqOp_of e ha hb
    exact ⟨rfl, run_eq_odd (cv_odd ha ho) (h1 w) hop⟩
  cases a with
  | int k n =>
    have := cv_int_eq ha; subst this
    cases b <;> simp only [binV] at e <;> try (cases e; done)
    rename_i k' m
    have := cv_int_eq hb; subst this
    unfold intOrShift at e
    have hg : (eqGuard op t x y (.int k n) (.int k' m)).run P w = .ok () w := by cases op <;> simp [eqGuard]
    rcases ci_some e with ⟨hs, e⟩ | ⟨hs, e⟩
    · obtain ⟨h1, h2⟩ := shift_ok (P := P) (w := w) e t hs (k' := k')
      exact ⟨h2 r, by simp only [Sem.run_bind, hg, Result.andThen_ok, h1]⟩
    · obtain ⟨hk, e2⟩ := ci_then e
      have := kEq_eq hk; subst this
      exact ⟨intBin_int e2 r, by simp only [Sem.run_bind, hg, Result.andThen_ok, intBin_ok e2 t]⟩
  | string s =>
    have := cv_str_eq ha; subst this
    cases b <;> simp only [binV] at e <;> try (cases e; done)
    rename_i u
    have := cv_str_eq hb; subst this
    have hg : (eqGuard op t x y (.string s) (.string u)).run P w = .ok () w := by cases op <;> simp [eqGuard]
    obtain ⟨h1, h2⟩ := strBin_ok (P := P) (w := w) e t
    exact ⟨h2 r, by simp only [Sem.run_bind, hg, Result.andThen_ok, h1]⟩
  | float k n =>
    have := cv_float_eq ha; subst this
    cases b <;> simp only [binV] at e <;> try (cases e; done)
    rename_i k' m
    have := cv_float_eq hb; subst this
    have hg : (eqGuard op t x y (.float k n) (.float k' m)).run P w = .ok () w := by cases op <;> simp [eqGuard]
    obtain ⟨h1, h2⟩ := litO_ok e
    have h3 : (binOp op t (.float k n) (.float k' m)).run P w = .ok v w := pureRun_ok h1
    exact ⟨h2 r, by simp only [Sem.run_bind, hg, Result.andThen_ok, h3]⟩
  | nilIface =>
    have hx : a' = .nilIface := by simp [cv] at ha; exact ha.symm
    subst hx
    have other : ∀ {b b' : Value}, cv r b = some b' → b' ≠ .nilIface → eqOp (AP.of P) op t .nilIface b = some v →
        cv r v = some v ∧ (do eqGuard op t x y .nilIface b'; binOp op t .nilIface b' : Sem Value).run P w = .ok v w := by
      intro b b' hb hne e
      obtain ⟨hop, c, h1, rfl⟩ := eqOp_of e ha hb
      refine ⟨rfl, ?_⟩
      have := h1 w
      rcases hop with rfl | rfl <;> cases b' <;> simp at hne <;> simp [eqGuard, binOp, this]
    cases b with
    | nilIface =>
      have hy : b' = .nilIface := by simp [cv] at hb; exact hb.symm
      subst hy
      simp only [binV] at e
      obtain ⟨hc, e⟩ := ci_then e
      obtain ⟨hop, c, h1, rfl⟩ := eqOp_of e ha hb
      refine ⟨rfl, ?_⟩
      have := h1 w
      rcases hop with rfl | rfl
      · have hg : (eqGuard .eql t x y .nilIface .nilIface).run P w = .ok () w := by
          cases x <;> cases y <;> simp [isConst] at hc <;> simp [eqGuard]
        simp only [Sem.run_bind, hg, Result.andThen_ok]
        simp [binOp, this]
      · have hg : (eqGuard .neq t x y .nilIface .nilIface).run P w = .ok () w := by
          cases x <;> cases y <;> simp [isConst] at hc <;> simp [eqGuard]
        simp only [Sem.run_bind, hg, Result.andThen_ok]
        simp [binOp, this]
    | int k n => have := cv_int_eq hb; subst this; exact other hb (by simp) e
    | string s => have := cv_str_eq hb; subst this; exact other hb (by simp) e
    | float k n => have := cv_float_eq hb; subst this; exact other hb (by simp) e
    | complex k n m => simp [cv] at hb; subst hb; exact other (by simp [cv]) (by simp) e
    | agg l => obtain ⟨l', rfl, _⟩ := cv_agg_eq hb; exact other hb (by simp) e
    | bool b => have := cv_bool_eq hb; subst this; exact other hb (by simp) e
    | pointer a => obtain ⟨_, rfl, _⟩ := cv_ptr_none hb; exact other hb (by simp) e
    | slice a l c => obtain ⟨_, _, _, rfl, _⟩ := cv_slice_isnone hb; exact other hb (by simp) e
    | map a => obtain ⟨_, rfl, _⟩ := cv_map_isnone hb; exact other hb (by simp) e
    | chan a =>
      exfalso
      have e : eqOp (AP.of P) op t .nilIface (.chan a) = some v := e
      obtain ⟨hop, c, h1, hv⟩ := eqOp_of e ha hb
      rcases hop with h2 | h2 <;> subst h2 <;> simp only [eqOp] at e
      · obtain ⟨_, h1, _⟩ := ob_eq e
        unfold equalA at h1
        obtain ⟨d, _, h1⟩ := ob_eq h1
        cases d <;> simp [eqD] at h1
      · obtain ⟨_, h1, _⟩ := ob_eq e
        unfold equalA at h1
        obtain ⟨d, _, h1⟩ := ob_eq h1
        cases d <;> simp [eqD] at h1
    | func f a b => obtain ⟨_, _, _, rfl, _⟩ := cv_func_eq hb; exact other hb (by simp) e
    | nilFunc => simp [cv] at hb; subst hb; exact other (by simp [cv]) (by simp) e
    | iface t x => obtain ⟨_, rfl, _⟩ := cv_iface_eq hb; exact other hb (by simp) e
    | tuple l => obtain ⟨_, rfl, _⟩ := cv_tuple_eq hb; exact other hb (by simp) e
  | agg l =>
    simp only [binV] at e
    obtain ⟨hg, e⟩ := ci_else e
    obtain ⟨l', rfl, _⟩ := cv_agg_eq ha
    obtain ⟨hop, c, h1, rfl⟩ := eqOp_of e ha hb
    refine ⟨rfl, ?_⟩
    have := h1 w
    have hgg : P.eqGuardType P.depth t = false := hg
    rcases hop with rfl | rfl <;> cases b' <;> simp [eqGuard, binOp, this, hgg]
  | bool b => exact viaEq rfl ha hb e
  | pointer a => exact viaEq rfl ha hb e
  | slice a l c => exact viaEq rfl ha hb e
  | map a => exact viaEq rfl ha hb e
  | chan a =>
    exfalso
    have e : eqOp (AP.of P) op t (.chan a) b = some v := e
    obtain ⟨hop, c, h1, hv⟩ := eqOp_of e ha hb
    rcases hop with h2 | h2 <;> subst h2 <;> simp only [eqOp] at e
    · obtain ⟨_, h1, _⟩ := ob_eq e
      unfold equalA at h1
      obtain ⟨d, _, h1⟩ := ob_eq h1
      cases d <;> simp [eqD] at h1
    · obtain ⟨_, h1, _⟩ := ob_eq e
      unfold equalA at h1
      obtain ⟨d, _, h1⟩ := ob_eq h1
      cases d <;> simp [eqD] at h1
  | func f a b => exact viaEq rfl ha hb e
  | nilFunc => exact viaEq rfl ha hb e
  | iface t x => exact viaEq rfl ha hb e
  | tuple l => exact viaEq rfl ha hb e
  | complex k a b => 
    simp only [binV] at e
    obtain ⟨hop, c, h1, rfl⟩ := eqOp_of e ha hb
    exfalso
    rcases hop with rfl | rfl <;> simp only [eqOp] at e
    · obtain ⟨_, h1, _⟩ := ob_eq e
      unfold equalA at h1
      obtain ⟨d, _, h1⟩ := ob_eq h1
      cases d <;> simp [eqD] at h1
    · obtain ⟨_, h1, _⟩ := ob_eq e
      unfold equalA at h1
      obtain ⟨d, _, h1⟩ := ob_eq h1
      cases d <;> simp [eqD] at h1
end
end Go.Am

namespace Go.Am
open Go Go.RowKit Forc

section
variable {gl : Nat} {r : Rho} {h : AHeap} {w0 w : World} {P : Program}

theorem un_of [Atoms] [iF : Forc] {op : UnOp} {a a' v : Value} (ha : cv r a = some a') (e : unA (AP.of P) op a = some v) : cv r v = some v ∧ (Op.unary op a').run P w = .ok v w := by
  cases op <;> simp only [unA] at e <;> try (cases e; done)
  · -- neg
    cases a <;> simp only at e <;> try (cases e; done)
    · rename_i k n
      have := cv_int_eq ha; subst this
      simp only [intBin, mkI_eq, wrapA_ok] at e
      cases e
      exact ⟨rfl, by
        have h0 : Int.sub (Int.ofNat 0) n = 0 - n := rfl
        simp only [Op.unary, Op.intArith, h0]; rfl⟩
    · have := cv_float_eq ha; subst this
      obtain ⟨h1, h2⟩ := litO_ok e
      exact ⟨h2 r, pureRun_ok h1⟩
  · cases a <;> simp only at e <;> try (cases e; done)
    rename_i k n
    have := cv_int_eq ha; subst this
    refine ⟨intBin_int e r, ?_⟩
    have := intBin_ok (P := P) (w := w) e 0
    simp only [binOp] at this
    simp only [Op.unary]
    have hk : ci k.signed (Int.negSucc 0) k.max = if k.signed = true then -1 else k.max := by
      cases k.signed <;> rfl
    rw [hk] at this
    simpa using this
  · cases a <;> simp only at e <;> try (cases e; done)
    have := cv_bool_eq ha; subst this
    rw [mkB_eq] at e
    cases e
    exact ⟨rfl, by simp [Op.unary]⟩

/-! ## building -/
theorem setRange_of [Atoms] : ∀ (cs : List Value) (i : Nat) (l out cs' l' : List Value), setRange cs i l = some out → cvs r cs = some cs' → cvs r l = some l' →
    i + l.length ≤ cs.length ∧ ∃ out', cvs r out = some out' ∧ out' = (cs'.take i ++ l') ++ cs'.drop (i + l'.length)
  | [], 0, [], out, cs', l', e, hc, hl => by
    simp [setRange] at e; subst e
    simp [cvs] at hc hl; subst hc; subst hl
    exact ⟨by simp, [], by simp [cvs], by simp⟩
  | [], 0, _ :: _, _, _, _, e, _, _ => by simp [setRange] at e
  | [], _ + 1, _, _, _, _, e, _, _ => by simp [setRange] at e
  | c :: cs, 0, [], out, cs', l', e, hc, hl => by
    simp [setRange] at e; subst e
    simp [cvs] at hl; subst hl
    exact ⟨by simp, cs', hc, by simp⟩
  | c :: cs, 0, v :: l, out, cs', l', e, hc, hl => by
    simp only [setRange] at e
    obtain ⟨q, hq, e⟩ := ob_eq e
    cases e
    obtain ⟨c', cs1, rfl, h1, h2⟩ := cvs_cons hc
    obtain ⟨v', l1, rfl, h3, h4⟩ := cvs_cons hl
    obtain ⟨hlen, out', h5, h6⟩ := setRange_of cs 0 l q cs1 l1 hq h2 h4
    refine ⟨by simp at hlen ⊢; omega, v' :: out', cvs_mk_cons h3 h5, ?_⟩
    subst h6
    simp
  | c :: cs, i + 1, l, out, cs', l', e, hc, hl => by
    simp only [setRange] at e
    obtain ⟨q, hq, e⟩ := ob_eq e
    cases e
    obtain ⟨c', cs1, rfl, h1, h2⟩ := cvs_cons hc
    obtain ⟨hlen, out', h5, h6⟩ := setRange_of cs i l q cs1 l' hq h2 hl
    refine ⟨by simp at hlen ⊢; omega, c' :: out', cvs_mk_cons h1 h5, ?_⟩
    subst h6
    have : i + 1 + l'.length = (i + l'.length) + 1 := by omega
    rw [this]
    simp

theorem foldSet (off : Nat) : ∀ (l : List Value) (j : Nat) (cs : Array Value), off + j + l.length ≤ cs.size →
    ((l.zipIdx j).foldl (fun cs (q : Value × Nat) => cs.setIfInBounds (off + q.2) q.1) cs).toList = (cs.toList.take (off + j) ++ l) ++ cs.toList.drop (off + j + l.length)
  | [], j, cs, _ => by simp
  | v :: l, j, cs, h => by
    simp only [List.zipIdx_cons, List.foldl_cons]
    rw [foldSet off l (j + 1) _ (by simp at h ⊢; omega)]
    simp only [Array.toList_setIfInBounds, List.length_cons] at h ⊢
    have hlt : off + j < cs.toList.length := by simp; omega
    have e1 : (cs.toList.set (off + j) v).take (off + (j + 1)) = cs.toList.take (off + j) ++ [v] := by
      have : off + (j + 1) = off + j + 1 := by omega
      rw [this, List.take_succ_eq_append_getElem (by simpa using hlt)]
      simp only [List.getElem_set_self]
      rw [List.take_set, List.set_eq_of_length_le (by simp; omega)]
    have e2 : (cs.toList.set (off + j) v).drop (off + (j + 1) + l.length) = cs.toList.drop (off + j + (l.length + 1)) := by
      rw [List.drop_set_of_lt (by omega)]
      congr 1; omega
    rw [e1, e2]
    simp

theorem fill_of [Atoms] {place : Nat → Option (Nat × Nat)} : ∀ (parts : List (Nat × Value)) (cs out : List Value) (parts' : List (Nat × Value)) (cs' : List Value),
    fillA place parts cs = some out → cvs r cs = some cs' → parts'.map (·.1) = parts.map (·.1) → cvs r (parts.map (·.2)) = some (parts'.map (·.2)) →
    ∃ out', cvs r out = some out' ∧ Instr.fill place ⟨cs'⟩ parts' = some ⟨out'⟩
  | [], cs, out, parts', cs', e, hc, hp, hv => by
    cases e
    cases parts' with
    | nil => exact ⟨cs', hc, rfl⟩
    | cons q l => simp at hp
  | q :: parts, cs, out, [], cs', e, hc, hp, hv => by simp at hp
  | q :: parts, cs, out, q' :: parts', cs', e, hc, hp, hv => by
    simp only [fillA] at e
    obtain ⟨off, size, h1, e⟩ := op2_eq e
    obtain ⟨h2, e⟩ := ci_then e
    obtain ⟨cs1, h3, e⟩ := ob_eq e
    simp only [List.map_cons, List.cons.injEq] at hp
    obtain ⟨hp1, hp2⟩ := hp
    obtain ⟨v', l', hv0, hv1, hv2⟩ := cvs_cons hv
    simp only [List.map_cons, List.cons.injEq] at hv0
    obtain ⟨hq, rfl⟩ := hv0
    have hcell := cv_cells hv1
    rw [← hq] at hcell
    obtain ⟨hlen, out1, h4, h5⟩ := setRange_of cs off _ cs1 cs' _ h3 hc hcell
    obtain ⟨out', h6, h7⟩ := fill_of parts cs1 out parts' out1 e h4 hp2 hv2
    refine ⟨out', h6, ?_⟩
    obtain ⟨i, v⟩ := q'
    simp only at hp1 hcell hq h5
    have hsz : v.cells.size = size := by
      rw [← Array.length_toList, cvs_length hcell, ← lenL_eq]; exact nbeq.1 h2
    have hcl := cvs_length hc
    have hvl := cvs_length hcell
    rw [Array.length_toList] at hvl
    simp only [Instr.fill, hp1, h1]
    rw [if_neg (by simp [hsz]; omega)]
    rw [← h7]
    congr 1
    apply Array.ext'
    rw [← Array.foldl_toList, Array.toList_zipIdx]
    have := foldSet off v.cells.toList 0 ⟨cs'⟩ (by simp; omega)
    simp only [Nat.add_zero] at this
    rw [this, h5]
end
end Go.Am

namespace Go.Am
open Go Go.RowKit Forc

section
variable {gl : Nat} {r : Rho} {h : AHeap} {w0 w : World} {P : Program}

theorem placesA_of : ∀ (fs : List Field), allSome (placesA (AP.of P) fs) = true →
    ∃ pl : List (Nat × Nat), (∀ w, (fs.mapM fun f => (do pure (f.offset, ← sizeOf f.type) : Sem (Nat × Nat))).run P w = .ok pl w) ∧ ∀ i, nthO (placesA (AP.of P) fs) i = pl[i]?
  | [], _ => ⟨[], fun w => by simp [List.mapM_nil], fun i => by simp [nthO, placesA, nth_eq]⟩
  | f :: fs, e => by
    simp only [placesA, allSome] at e
    cases hs : (AP.of P).size f.type with
    | none => rw [hs] at e; simp at e
    | some n =>
      rw [hs] at e
      simp only [ob_some] at e
      obtain ⟨i, hi, rfl⟩ := size_spec hs
      obtain ⟨pl, h1, h2⟩ := placesA_of fs e
      refine ⟨(f.offset, i.size) :: pl, fun w => ?_, fun j => ?_⟩
      · simp only [List.mapM_cons, Sem.run_bind, run_sizeOf' w hi, Result.andThen_ok, Sem.run_pure, h1]
      · simp only [placesA, hs, ob_some]
        cases j with
        | zero => simp [nthO, nth_eq]
        | succ j =>
          have := h2 j
          simp only [nthO, nth_eq] at this ⊢
          simpa using this

theorem build_of [Atoms] {t : TypeId} {ps ps' : List (Nat × Value)} {v : Value} (hp : ps'.map (·.1) = ps.map (·.1)) (hv : cvs r (ps.map (·.2)) = some (ps'.map (·.2))) (e : buildA (AP.of P) t ps = some v) :
    ∃ v', cv r v = some v' ∧ (Instr.build t ⟨ps'⟩).run P w = .ok v' w := by
  unfold buildA at e
  obtain ⟨d, hd, e⟩ := ob_eq e
  obtain ⟨z, hz1, e⟩ := ob_eq e
  have hd := und_spec hd
  obtain ⟨i, hi, hiz, hlit⟩ := zero_spec hz1
  have hzc : cvs r (cellsOf z) = some z.cells.toList := cv_cells (lit_spec hlit)
  unfold Instr.build
  cases d with
  | array len et =>
    obtain ⟨n, hn, e⟩ := ob_eq e
    obtain ⟨j, hj, rfl⟩ := size_spec hn
    obtain ⟨cs, hc, e⟩ := ob_eq e
    cases e
    obtain ⟨out', h1, h2⟩ := fill_of ps _ _ ps' _ hc hzc hp hv
    refine ⟨.agg ⟨out'⟩, by simp only [cv, h1], ?_⟩
    have h2' : Instr.fill (fun i => some (i * j.size, j.size)) z.cells ps' = some ⟨out'⟩ := h2
    simp only [Sem.run_bind, run_zeroValue' w hi hiz, Result.andThen_ok, run_underlying' w hd, run_sizeOf' w hj]
    simp [h2']
  | struct fs =>
    obtain ⟨hall, e⟩ := ci_then e
    obtain ⟨cs, hc, e⟩ := ob_eq e
    cases e
    obtain ⟨pl, g1, g2⟩ := placesA_of (P := P) fs.toList hall
    have hpl : nthO (placesA (AP.of P) fs.toList) = (fun i => pl[i]?) := funext g2
    rw [hpl] at hc
    obtain ⟨out', h1, h2⟩ := fill_of ps _ _ ps' _ hc hzc hp hv
    refine ⟨.agg ⟨out'⟩, by simp only [cv, h1], ?_⟩
    have h2' : Instr.fill (fun i => (⟨pl⟩ : Array (Nat × Nat))[i]?) z.cells ps' = some ⟨out'⟩ := by simpa using h2
    have g3 : (fs.mapM fun f => (do pure (f.offset, ← sizeOf f.type) : Sem (Nat × Nat))).run P w = .ok ⟨pl⟩ w := by
      rw [Array.mapM_eq_mapM_toList]
      simp only [Sem.run_map, g1, Result.andThen_ok]
    simp only [Sem.run_bind, run_zeroValue' w hi hiz, Result.andThen_ok, run_underlying' w hd]
    rw [g3]
    simp only [Result.andThen_ok]
    rw [h2']
    rfl
  | _ => cases e
end
end Go.Am

namespace Go.Am
open Go Go.RowKit Forc

section
variable {gl : Nat} {r : Rho} {h : AHeap} {w0 w : World} {P : Program}

/-! ## addresses -/
theorem elemAt_of [Atoms] [iF : Forc] {e : TypeId} {a b : Addr} {len i : Nat} {v : Value} (ha : ca r a = some b) (x : elemAt (AP.of P) e a len i = some v) :
    ∃ n, P.info? e = some n ∧ i < len ∧ v = .pointer (some (a.add (i * n.size))) ∧ cv r v = some (.pointer (some (b.add (i * n.size)))) := by
  unfold elemAt at x
  obtain ⟨n, hn, x⟩ := ob_eq x
  obtain ⟨j, hj, rfl⟩ := size_spec hn
  obtain ⟨hl, x⟩ := ci_then x
  cases x
  have hl := nblt.1 hl
  refine ⟨j, hj, hl, by rw [addA_eq]; rfl, ?_⟩
  rw [addA_eq]
  have := ca_add ha (i * j.size)
  show (match ca r (a.add (Nat.mul i j.size)) with | some a' => _ | none => _) = _
  rw [show Nat.mul i j.size = i * j.size from rfl, this]

theorem indexAddr_of [Atoms] [iF : Forc] {t : TypeId} {x ix x' ix' v : Value} (hx : cv r x = some x') (hi : cv r ix = some ix') (e : indexAddrA (AP.of P) t x ix = some v) :
    ∃ v', cv r v = some v' ∧ (Instr.indexAt t x' ix').run P w = .ok v' w := by
  unfold indexAddrA at e
  obtain ⟨d, hd, e⟩ := ob_eq e
  have hd := und_spec hd
  have core : ∀ {a b : Addr} {et : TypeId} {len i : Nat}, ca r a = some b → natOf ix = some i → elemAt (AP.of P) et a len i = some v →
      ∃ n k, P.info? et = some n ∧ ix' = .int k (i : Int) ∧ i < len ∧ cv r v = some (.pointer (some (b.add (i * n.size)))) := by
    intro a b et len i ha hix he
    obtain ⟨n, h1, h2, _, h4⟩ := elemAt_of ha he
    obtain ⟨k, rfl⟩ := natOf_eq hix
    exact ⟨n, k, h1, cv_int_eq hi, h2, h4⟩
  cases d with
  | array len et =>
    cases x with
    | pointer a =>
      obtain ⟨a, rfl, e⟩ := ob_eq e
      obtain ⟨i, hix, e⟩ := ob_eq e
      obtain ⟨b, rfl, hb⟩ := cv_ptr_eq hx
      obtain ⟨n, k, h1, rfl, h3, h4⟩ := core hb hix e
      refine ⟨_, h4, ?_⟩
      unfold Instr.indexAt
      simp only [asIntOf, Sem.run_bind, Sem.run_pure, Result.andThen_ok, run_underlying' w hd, Instr.sureAddr]
      rw [if_pos (by omega)]
      simp [run_sizeOf' w h1]
    | _ => cases e
  | slice et =>
    cases x with
    | slice a len cap =>
      obtain ⟨a, rfl, e⟩ := ob_eq e
      obtain ⟨i, hix, e⟩ := ob_eq e
      obtain ⟨hc, e⟩ := ci_then e
      obtain ⟨b, c', rfl, hb⟩ := cv_slice_addr (nblt.1 hc) hx
      obtain ⟨n, k, h1, rfl, h3, h4⟩ := core hb hix e
      refine ⟨_, h4, ?_⟩
      unfold Instr.indexAt
      simp only [asIntOf, Sem.run_bind, Sem.run_pure, Result.andThen_ok, run_underlying' w hd]
      rw [if_pos (by omega)]
      simp [run_sizeOf' w h1]
    | _ => cases e
  | _ => cases e

theorem index_of [Atoms] [iF : Forc] {t : TypeId} {x ix x' ix' v : Value} (hx : cv r x = some x') (hi : cv r ix = some ix') (e : indexA (AP.of P) t x ix = some v) :
    ∃ v', cv r v = some v' ∧ (Instr.index t x' ix').run P w = .ok v' w := by
  unfold indexA at e
  obtain ⟨d, hd, e⟩ := ob_eq e
  have hd := und_spec hd
  cases d with
  | array len et =>
    cases x with
    | agg cs =>
      obtain ⟨i, hix, e⟩ := ob_eq e
      obtain ⟨n, hn, e⟩ := ob_eq e
      obtain ⟨j, hj, rfl⟩ := size_spec hn
      obtain ⟨hl, e9⟩ := ci_then e
      have hl := nblt.1 hl
      obtain ⟨k, rfl⟩ := natOf_eq hix
      have := cv_int_eq hi; subst this
      obtain ⟨cs', rfl, hcs⟩ := cv_agg_eq hx
      obtain ⟨v', h1, h2⟩ := part_of (w := w) hcs e9
      refine ⟨v', h1, ?_⟩
      unfold Instr.index
      simp only [asIntOf, Sem.run_bind, Sem.run_pure, Result.andThen_ok, run_underlying' w hd]
      rw [if_pos (by omega)]
      simp only [Sem.run_bind, run_sizeOf' w hj, Result.andThen_ok, Int.toNat_natCast]
      exact h2
    | _ => cases e
  | string =>
    cases x with
    | string s =>
      obtain ⟨i, hix, e⟩ := ob_eq e
      obtain ⟨b, hb, e⟩ := ob_eq e
      simp only [fN_eq] at e
      cases e
      rw [nth_eq] at hb
      obtain ⟨k, rfl⟩ := natOf_eq hix
      have := cv_int_eq hi; subst this
      have := cv_str_eq hx; subst this
      refine ⟨_, rfl, ?_⟩
      unfold Instr.index
      simp only [asIntOf, Sem.run_bind, Sem.run_pure, Result.andThen_ok, run_underlying' w hd]
      have hlt : i < s.size := by
        rcases Nat.lt_or_ge i s.size with hl | hl
        · exact hl
        · rw [← size_strL] at hl; simp [hl] at hb
      have hb' : s[i]? = some b := by
        simp only [strL] at hb
        rw [Array.getElem?_toList] at hb
        have hd : i < s.data.size := hlt
        rw [Array.getElem?_eq_getElem hd] at hb
        rw [getElem?_pos s i hlt]
        exact hb
      rw [if_pos (by omega)]
      simp [hb']
    | _ => cases e
  | _ => cases e

theorem fields_inv {β : Type} {t : TypeId} {i : Nat} {f : Field → Option β} {y : β} (e : fieldsOf (AP.of P) t i f = some y) :
    ∃ fs fd, P.underlying t = some (.struct fs) ∧ fs[i]? = some fd ∧ f fd = some y := by
  obtain ⟨d, hd, e⟩ := ob_eq e
  have hd := und_spec hd
  cases d with
  | struct fs =>
    obtain ⟨fd, hf, e⟩ := ob_eq e
    rw [nth_eq, Array.getElem?_toList] at hf
    exact ⟨fs, fd, hd, hf, e⟩
  | _ => cases e

theorem fieldAddr_of [Atoms] [iF : Forc] {t : TypeId} {x x' v : Value} {f : Nat} (hx : cv r x = some x') (e : fieldAddrA (AP.of P) t x f = some v) :
    ∃ v', cv r v = some v' ∧ (Instr.fieldAt t x' f).run P w = .ok v' w := by
  obtain ⟨fs, fd, h1, h2, e⟩ := fields_inv e
  cases x with
  | pointer a =>
    obtain ⟨a, rfl, e8⟩ := ob_eq e
    obtain ⟨n, hn, e9⟩ := ob_eq e8
    obtain ⟨j, hj, rfl⟩ := size_spec hn
    obtain ⟨hl, e7⟩ := ci_then e9
    have hl := nblt.1 hl
    cases e7
    obtain ⟨b, rfl, hb⟩ := cv_ptr_eq hx
    refine ⟨.pointer (some (b.add fd.offset)), ?_, ?_⟩
    · rw [addA_eq]; simp only [cv, ca_add hb]
    · unfold Instr.fieldAt
      simp only [Sem.run_bind, run_underlying' w h1, Result.andThen_ok, h2, Instr.sureAddr, Sem.run_pure, fieldPlace, run_sizeOf' w hj]
      rw [if_neg (by omega)]
      simp
  | _ => cases e

theorem field_of [Atoms] {t : TypeId} {x x' v : Value} {f : Nat} (hx : cv r x = some x') (e : fieldA (AP.of P) t x f = some v) :
    ∃ v', cv r v = some v' ∧ (Instr.field t x' f).run P w = .ok v' w := by
  obtain ⟨fs, fd, h1, h2, e⟩ := fields_inv e
  cases x with
  | agg cs =>
    obtain ⟨cs', rfl, hcs⟩ := cv_agg_eq hx
    obtain ⟨v', h3, h4⟩ := part_of (w := w) hcs e
    refine ⟨v', h3, ?_⟩
    unfold Instr.field
    simp only [Sem.run_bind, run_underlying' w h1, Result.andThen_ok, h2, asAgg, Sem.run_pure]
    exact h4
  | _ => cases e

theorem arrayAt_of [Atoms] {t : TypeId} {x x' v : Value} (hx : cv r x = some x') (e : arrayAtA (AP.of P) t x = some v) :
    ∃ v', cv r v = some v' ∧ (Instr.arrayAt t x').run P w = .ok v' w := by
  obtain ⟨d, hd, e⟩ := ob_eq e
  have hd := und_spec hd
  cases d with
  | array n et =>
    cases x with
    | slice a len cap =>
      obtain ⟨hc, e⟩ := ci_then e
      cases e
      simp only [Bool.and_eq_true, nble, nblt] at hc
      cases a with
      | none =>
        have := cv_slice_none hx; subst this
        refine ⟨.pointer none, by simp [cv], ?_⟩
        unfold Instr.arrayAt
        simp only [Sem.run_bind, run_underlying' w hd, Result.andThen_ok]
        rw [if_neg (by omega)]; simp
      | some a =>
        obtain ⟨b, c', rfl, hb⟩ := cv_slice_addr hc.2 hx
        refine ⟨.pointer (some b), by simp only [cv, hb], ?_⟩
        unfold Instr.arrayAt
        simp only [Sem.run_bind, run_underlying' w hd, Result.andThen_ok]
        rw [if_neg (by omega)]; simp
    | _ => cases e
  | _ => cases e

theorem assertFails_of [Atoms] {t : TypeId} {ok : Bool} {v : Value} (e : assertFails (AP.of P) t ok = some v) :
    ok = true ∧ ∃ z, (∀ w, (zeroValue t).run P w = .ok z w) ∧ v = .tuple #[z, .bool false] ∧ cv r v = some v := by
  obtain ⟨h1, e⟩ := ci_then e
  obtain ⟨z, hz, e⟩ := ob_eq e
  obtain ⟨i, hi, hiz, hl⟩ := zero_spec hz
  obtain ⟨_, e⟩ := ci_then e
  cases e
  refine ⟨h1, z, fun w => run_zeroValue' w hi hiz, rfl, ?_⟩
  simp only [cv, cvs, lit_spec hl]

theorem typeAssert_of [Atoms] {xt t : TypeId} {ok : Bool} {x x' v : Value} (hx : cv r x = some x') (e : typeAssertA (AP.of P) x t ok = some v) :
    ∃ v', cv r v = some v' ∧ (Instr.typeAssert x' xt t ok).run P w = .ok v' w := by
  obtain ⟨d, hd, e⟩ := ob_eq e
  have hd := und_spec hd
  obtain ⟨hni, e⟩ := ci_else e
  cases x with
  | nilIface =>
    obtain ⟨rfl, z, h1, rfl, h2⟩ := assertFails_of (r := r) e
    have : x' = .nilIface := by simp [cv] at hx; exact hx.symm
    subst this
    refine ⟨_, h2, ?_⟩
    unfold Instr.typeAssert
    cases d <;> simp [isIfaceD] at hni <;> simp [run_underlying' w hd, h1]
  | iface u y =>
    obtain ⟨y', rfl, hy⟩ := cv_iface_eq hx
    rcases ci_some e with ⟨ht, e8⟩ | ⟨ht, e8⟩
    · have ht2 := nbeq.1 ht; clear ht e
      subst ht2
      rcases ci_some e8 with ⟨rfl, e7⟩ | ⟨rfl, e7⟩
      · cases e7
        refine ⟨.tuple ⟨[y', .bool true]⟩, by simp only [cv, cvs, hy], ?_⟩
        unfold Instr.typeAssert
        cases d <;> simp [isIfaceD] at hni <;> simp [run_underlying' w hd]
      · cases e7
        refine ⟨y', hy, ?_⟩
        unfold Instr.typeAssert
        cases d <;> simp [isIfaceD] at hni <;> simp [run_underlying' w hd]
    · have ht := nbeq_f.1 ht
      obtain ⟨rfl, z, h1, rfl, h2⟩ := assertFails_of (r := r) e8
      refine ⟨_, h2, ?_⟩
      unfold Instr.typeAssert
      cases d <;> simp [isIfaceD] at hni <;> simp [run_underlying' w hd, h1, ht]
  | _ => cases e

theorem nilCheck_of [Atoms] {t : Oper} {ρ : Operand → Value} {x : Operand} (ht : t.op = .nilCheck x) {v y : Value} (hx : cv r y = some (ρ x)) (e : nilCheckA y = some v) :
    ∃ v', cv r v = some v' ∧ (execOp ρ t).run P w = .ok (.value v') w := by
  have hv : v = y ∧ (∃ a, y = .pointer (some a)) ∨ v = y ∧ (∃ fn a b, y = .func fn a b ∧ ∀ name, fn ≠ .method name) := by
    cases y with
    | pointer a => obtain ⟨a, rfl, e⟩ := ob_eq e; cases e; exact .inl ⟨rfl, a, rfl⟩
    | func fn a b =>
      cases fn <;> simp only [nilCheckA] at e <;> cases e <;> exact .inr ⟨rfl, _, _, _, rfl, fun _ h => by cases h⟩
    | _ => cases e
  rcases hv with ⟨rfl, a, rfl⟩ | ⟨rfl, fn, a, b, rfl, hm⟩
  · obtain ⟨b, hb, _⟩ := cv_ptr_eq hx
    refine ⟨ρ x, hx, ?_⟩
    simp only [execOp, ht, hb]
    rfl
  · obtain ⟨f', a', b', hb, hf, _, _⟩ := cv_func_eq hx
    refine ⟨ρ x, hx, ?_⟩
    have hm' : ∀ name, f' ≠ .method name := by
      intro name h; subst h
      cases fn <;> simp [cfn] at hf
      · exact hm _ rfl
      · split at hf <;> cases hf
    simp only [execOp, ht, hb]
    cases f' <;> first | rfl | exact absurd rfl (hm' _)
end
end Go.Am

namespace Go.Am
open Go Go.RowKit Forc

section
variable {gl : Nat} {r : Rho} {h : AHeap} {w0 w : World} {P : Program}

def cvo [Atoms] (r : Rho) : Option Value → Option Value → Prop
  | none, o => o = none
  | some v, o => ∃ v', o = some v' ∧ cv r v = some v'

theorem bnd_inv [Atoms] {x x' : Option Value} {d y n : Nat} (hx : cvo r x x') (e : bnd x d y = some n) :
    (x' = none ∧ x = none ∧ n = d) ∨ (∃ k, x' = some (.int k (n : Int)) ∧ n ≤ y ∧ ∃ v, x = some v) := by
  cases x with
  | none => cases e; exact .inl ⟨hx, rfl, rfl⟩
  | some v =>
    obtain ⟨v', rfl, hv⟩ := hx
    obtain ⟨m, hm, e⟩ := ob_eq e
    obtain ⟨hl, e⟩ := ci_then e
    cases e
    obtain ⟨k, rfl⟩ := natOf_eq hm
    have := cv_int_eq hv; subst this
    exact .inr ⟨k, rfl, nble.1 hl, _, rfl⟩

theorem run_sliceBound {k : IntKind} {n y : Nat} {code : BoundsCode} (h : n ≤ y) : (Instr.sliceBound (.int k (n : Int)) y code).run P w = .ok n w := by
  unfold Instr.sliceBound
  simp only [asIntOf, Sem.run_bind, Sem.run_pure, Result.andThen_ok]
  rw [if_pos (by omega)]
  simp

/-- the bounds of a slice expression; 'cap': as the model has it; 'm': what it comes to -/
theorem run_sliceBounds [Atoms] {isSlice : Bool} {len cap m hh l : Nat} {lo hi mx lo' hi' mx' : Option Value} (hlo : cvo r lo lo') (hhi : cvo r hi hi') (hmx : cvo r mx mx') (hno : noHigh hi mx = false)
    (h1 : (mx = none ∧ m = cap) ∨ (∃ k, mx' = some (.int k (m : Int)) ∧ m ≤ cap)) (h2 : (hi' = none ∧ hh = len) ∨ (∃ k, hi' = some (.int k (hh : Int)) ∧ hh ≤ m)) (h3 : bnd lo 0 hh = some l) :
    (Instr.sliceBounds isSlice len cap lo' hi' mx').run P w = .ok (l, hh, m) w := by
  have hlo' := bnd_inv hlo h3
  unfold Instr.sliceBounds
  rcases h1 with ⟨hm0, rfl⟩ | ⟨k1, rfl, hk1⟩
  · subst hm0
    have hm1 : mx' = none := hmx
    subst hm1
    rcases h2 with ⟨rfl, rfl⟩ | ⟨k2, rfl, hk2⟩ <;> rcases hlo' with ⟨rfl, _, rfl⟩ | ⟨k3, rfl, hk3, _⟩ <;>
      simp only [Sem.run_bind, Sem.run_pure, Result.andThen_ok, run_sliceBound, *]
  · rcases h2 with ⟨rfl, rfl⟩ | ⟨k2, rfl, hk2⟩
    · exfalso
      cases hi with
      | none => cases mx with
        | none => cases hmx
        | some v => simp [noHigh] at hno
      | some u => obtain ⟨_, h, _⟩ := hhi; cases h
    · rcases hlo' with ⟨rfl, _, rfl⟩ | ⟨k3, rfl, hk3, _⟩ <;>
      simp only [Sem.run_bind, Sem.run_pure, Result.andThen_ok, run_sliceBound, *]

theorem mkSl_eq [iF : Forc] {a : Addr} {l c : Nat} {v : Value} (e : mkSl a l c = some v) : v = .slice (some a) l c := by
  unfold mkSl at e
  rw [fN_eq, fN_eq] at e
  exact (Option.some.inj e).symm

theorem cv_mk_exact [Atoms] {a b : Addr} {l c : Nat} (ha : ca r a = some b) (hc : c < capInf) : cv r (.slice (some a) l c) = some (.slice (some b) l c) := by
  obtain ⟨hs, pb, hp, rfl⟩ := ca_eq ha
  simp [cv, cslice, hs, hp, hc]

theorem ite_addr [Atoms] [iF : Forc] {r : Rho} {a b : Addr} (ha : ca r a = some b) (m l n : Nat) :
    ca r (ci (Nat.beq m l) a (addA a (Nat.mul l n))) = some (if m = l then b else b.add (l * n)) := by
  by_cases e : m = l
  · rw [nbeq.2 e, ci_true, if_pos e]; exact ha
  · rw [nbeq_f.2 e, ci_false, if_neg e, addA_eq]; exact ca_add ha _

/-- what an open slice's capacity is -/
theorem cv_open [Atoms] {a : Addr} {l e : Nat} {v : Value} (he : 0 < e) (hlt : e < 256) (hv : cv r (.slice (some a) l (capInf + e)) = some v) :
    a.spot = none ∧ ∃ pb, r a.block = some pb ∧ a.off + l * e ≤ pb.cap ∧ v = .slice (some ⟨pb.blk, pb.off + a.off, none⟩) l ((pb.cap - a.off) / e) := by
  simp only [cv, cslice] at hv
  split at hv
  · cases hv
  · rename_i hs
    split at hv
    · cases hv
    · rename_i pb hp
      rw [if_neg (by omega), if_pos (by unfold capInf capEmp; omega)] at hv
      have : capInf + e - capInf = e := by omega
      rw [this] at hv
      split at hv
      · rename_i hh; cases hv; exact ⟨hs, pb, hp, hh.2, rfl⟩
      · cases hv
theorem cv_mk_open [Atoms] {a : Addr} {pb : PB} {l e : Nat} (he : 0 < e) (hlt : e < 256) (hs : a.spot = none) (hp : r a.block = some pb) (hl : a.off + l * e ≤ pb.cap) :
    cv r (.slice (some a) l (capInf + e)) = some (.slice (some ⟨pb.blk, pb.off + a.off, none⟩) l ((pb.cap - a.off) / e)) := by
  simp only [cv, cslice, hs, hp]
  rw [if_neg (by omega), if_pos (by unfold capInf capEmp; omega)]
  have : capInf + e - capInf = e := by omega
  rw [this, if_pos ⟨he, hl⟩]

theorem known_of [Atoms] [iF : Forc] (H : HR gl r h w0 w) {a : Addr} {pb : PB} {e k : Nat} (hp : r a.block = some pb) (x : knownCap h a e = some k) :
    0 < e ∧ a.off + k * e ≤ pb.cap ∧ ∃ c n t opn ro, h.get a.block = some (.cells c n t opn ro) ∧ k = (n - a.off) / e ∧ a.off ≤ n := by
  obtain ⟨c, n, t, opn, ro, hg, x⟩ := onCells_eq x
  obtain ⟨hc, x⟩ := ci_then x
  rw [fN_eq] at x
  cases x
  simp only [Bool.and_eq_true, nblt, nble] at hc
  obtain ⟨o, ho, hh⟩ := H.obj _ _ hp
  obtain ⟨cs, fz, rfl, K⟩ := hh _ hg
  refine ⟨hc.1, ?_, c, n, t, opn, ro, hg, rfl, hc.2⟩
  have h1 : (n - a.off) / e * e ≤ n - a.off := Nat.div_mul_le_self _ _
  have h2 := K.le
  show a.off + (n - a.off) / e * e ≤ pb.cap
  omega

/-- a slice of a slice, or of an array; 'run': what the model makes of it -/
theorem slice_core [Atoms] [iF : Forc] (H : HR gl r h w0 w) {n : Nat} {a : Addr} {len cap : Nat} {lo hi mx lo' hi' mx' : Option Value} {v x' : Value}
    (hlo : cvo r lo lo') (hhi : cvo r hi hi') (hmx : cvo r mx mx') (hno : noHigh hi mx = false) (hx : cv r (.slice (some a) len cap) = some x')
    (e : sliceS n h a len cap lo hi mx = some v) :
    ∃ b c' hh l m, x' = .slice (some b) len c' ∧ (∀ isSlice, (Instr.sliceBounds isSlice len c' lo' hi' mx').run P w = .ok (l, hh, m) w) ∧
      cv r v = some (.slice (some (if m = l then b else b.add (l * n))) (hh - l) (m - l)) := by
  unfold sliceS at e
  rcases ci_some e with ⟨hc, e1⟩ | ⟨hc, e1⟩
  · -- a known capacity
    have hc := nblt.1 hc
    obtain ⟨b, c', rfl, hb⟩ := cv_slice_addr (by unfold capInf at hc; unfold capEmp; omega) hx
    have : c' = cap := by
      have := cv_mk_exact (l := len) hb hc
      rw [hx] at this
      injection this with this; injection this
    subst this
    obtain ⟨m, hm, e2⟩ := ob_eq e1
    obtain ⟨hh, hhh, e3⟩ := ob_eq e2
    obtain ⟨l, hl, e4⟩ := ob_eq e3
    obtain ⟨_, e5⟩ := ci_then e4
    have := mkSl_eq e5; subst this
    refine ⟨b, c', hh, l, m, rfl, fun isSlice => run_sliceBounds hlo hhi hmx hno ?_ ?_ hl, ?_⟩
    · rcases bnd_inv hmx hm with ⟨_, h2, h3⟩ | ⟨k, h2, h3, _⟩
      · exact .inl ⟨h2, h3⟩
      · exact .inr ⟨k, h2, h3⟩
    · rcases bnd_inv hhi hhh with ⟨h1, h2, h3⟩ | ⟨k, h2, h3, _⟩
      · exact .inl ⟨h1, h3⟩
      · exact .inr ⟨k, h2, h3⟩
    · have hm' : m ≤ c' := by
        rcases bnd_inv hmx hm with ⟨_, _, h3⟩ | ⟨_, _, h3, _⟩ <;> omega
      exact cv_mk_exact (ite_addr hb m l n) (by show m - l < capInf; omega)
  · rcases ci_some e1 with ⟨hc2, e2⟩ | ⟨hc2, e2⟩
    · -- an open row
      obtain ⟨hcn, e3⟩ := ci_then e2
      obtain ⟨k, hk, e4⟩ := ob_eq e3
      have hcn := nbeq.1 hcn
      have hcn' : cap = capInf + n := hcn
      subst hcn'
      have hs0 : a.spot = none := by
        simp only [cv, cslice] at hx
        split at hx
        · cases hx
        · assumption
      have hp0 : ∃ pb, r a.block = some pb := by
        simp only [cv, cslice, hs0] at hx
        split at hx
        · cases hx
        · rename_i pb hp; exact ⟨pb, hp⟩
      obtain ⟨pb, hp⟩ := hp0
      obtain ⟨hn0, hkc, _⟩ := known_of H hp hk
      unfold sliceI at e4
      obtain ⟨hlen, e5⟩ := ci_then e4
      have hlen := nble.1 hlen
      have hmul : ∀ q, q ≤ k → a.off + q * n ≤ pb.cap := fun q hq => by
        have := Nat.mul_le_mul_right n hq
        omega
      have hkcap : k ≤ (pb.cap - a.off) / n := by
        rw [Nat.le_div_iff_mul_le hn0]; omega
      -- the element's size is small, or there is no such slice
      have hn256 : n < 256 ∨ ¬ n < 256 := by omega
      have hshape : x' = .slice (some ⟨pb.blk, pb.off + a.off, none⟩) len ((pb.cap - a.off) / n) := by
        simp only [cv, cslice, hs0, hp] at hx
        rw [if_neg (by omega), if_pos (nblt.1 hc2)] at hx
        have : capInf + n - capInf = n := by omega
        rw [this, if_pos ⟨hn0, hmul len hlen⟩] at hx
        exact (Option.some.inj hx).symm
      have hb : ca r a = some ⟨pb.blk, pb.off + a.off, none⟩ := by simp [ca, hs0, hp]
      cases mx with
      | some mv =>
        obtain ⟨m, hm, e6⟩ := ob_eq e5
        obtain ⟨hh, hhh, e7⟩ := ob_eq e6
        obtain ⟨l, hl, e8⟩ := ob_eq e7
        obtain ⟨hmc, e9⟩ := ci_then e8
        have := mkSl_eq e9; subst this
        have hmk : m ≤ k ∧ ∃ q, mx' = some (.int q (m : Int)) := by
          rcases bnd_inv hmx hm with ⟨_, h2, _⟩ | ⟨q, h2, h3, _⟩
          · cases h2
          · exact ⟨h3, q, h2⟩
        refine ⟨_, _, hh, l, m, hshape, fun isSlice => run_sliceBounds hlo hhi hmx hno ?_ ?_ hl, ?_⟩
        · obtain ⟨h1, q, h2⟩ := hmk; exact .inr ⟨q, h2, by omega⟩
        · rcases bnd_inv hhi hhh with ⟨h1, h2, h3⟩ | ⟨k, h2, h3, _⟩
          · exact .inl ⟨h1, h3⟩
          · exact .inr ⟨k, h2, h3⟩
        · refine cv_mk_exact (ite_addr hb m l n) ?_
          show m - l < capInf
          have := nblt.1 hmc; omega
      | none =>
        obtain ⟨hh, hhh, e6⟩ := ob_eq e5
        obtain ⟨l, hl, e7⟩ := ob_eq e6
        have hrun : ∀ isSlice, (Instr.sliceBounds isSlice len ((pb.cap - a.off) / n) lo' hi' mx').run P w = .ok (l, hh, (pb.cap - a.off) / n) w := by
          intro isSlice
          refine run_sliceBounds hlo hhi hmx hno (.inl ⟨rfl, rfl⟩) ?_ hl
          rcases bnd_inv hhi hhh with ⟨h1, h2, h3⟩ | ⟨q, h2, h3, _⟩
          · exact .inl ⟨h1, h3⟩
          · exact .inr ⟨q, h2, by omega⟩
        have hhk : hh ≤ k := by
          rcases bnd_inv hhi hhh with ⟨h1, h2, h3⟩ | ⟨q, h2, h3, _⟩ <;> omega
        have hlh : l ≤ hh := by
          rcases bnd_inv hlo hl with ⟨h1, h2, h3⟩ | ⟨q, h2, h3, _⟩ <;> omega
        refine ⟨_, _, hh, l, _, hshape, hrun, ?_⟩
        rcases ci_some e7 with ⟨hl0, e8⟩ | ⟨hl0, e8⟩
        · have hl0 := nbeq.1 hl0; subst hl0
          have := mkSl_eq e8; subst this
          simp only [cv, cslice, hs0, hp]
          rw [if_neg (by omega), if_pos (nblt.1 hc2)]
          have : capInf + n - capInf = n := by omega
          rw [this, if_pos ⟨hn0, hmul hh hhk⟩]
          simp [add_none]
        · have hl0 := nbeq_f.1 hl0
          rcases ci_some e8 with ⟨hlk, e9⟩ | ⟨hlk, e9⟩
          · have hlk := nblt.1 hlk
            have := mkSl_eq e9; subst this
            have hne : ¬ (pb.cap - a.off) / n = l := by omega
            rw [if_neg hne]
            obtain ⟨blk, off, sp⟩ := a
            simp only at hs0 hp hmul hkcap hne
            subst hs0
            rw [addA_eq, add_none, add_none]
            simp only [cv, cslice, hp]
            rw [if_neg (by omega), if_pos (nblt.1 hc2)]
            have : capInf + n - capInf = n := by omega
            rw [this]
            have hml : Nat.mul l n = l * n := rfl
            have h1 : off + l * n + (hh - l) * n ≤ pb.cap := by
              have := hmul hh hhk
              have h2 : hh * n = l * n + (hh - l) * n := by rw [← Nat.add_mul, Nat.add_sub_of_le hlh]
              omega
            rw [hml, if_pos ⟨hn0, h1⟩]
            have h3 : (pb.cap - (off + l * n)) / n = (pb.cap - off) / n - l := by
              have : pb.cap - (off + l * n) = (pb.cap - off) - n * l := by rw [Nat.mul_comm n l]; omega
              rw [this, Nat.sub_mul_div]
            rw [h3]
            rw [← Nat.add_assoc]
            exact congrArg some (congr (congr (congrArg Value.slice rfl) rfl) rfl)
          · have hlk := nblt_f.1 hlk
            obtain ⟨hn, e10⟩ := ci_then e9
            have hn := nblt.1 hn
            have := mkSl_eq e10; subst this
            have hlk' : l = k := by omega
            have hhl : hh - l = 0 := by omega
            rw [hhl]
            simp only [cv, cslice, hs0, hp]
            have hbig : ¬ Nat.add capEmp (Nat.add n (Nat.mul 256 l)) < capInf := by show ¬ capEmp + (n + 256 * l) < capInf; unfold capEmp capInf; omega
            have hbig2 : ¬ Nat.add capEmp (Nat.add n (Nat.mul 256 l)) < capEmp := by show ¬ capEmp + (n + 256 * l) < capEmp; omega
            rw [if_neg hbig, if_neg hbig2]
            have q1 : (Nat.add capEmp (Nat.add n (Nat.mul 256 l)) - capEmp) % 256 = n := by show (capEmp + (n + 256 * l) - capEmp) % 256 = n; omega
            have q2 : (Nat.add capEmp (Nat.add n (Nat.mul 256 l)) - capEmp) / 256 = l := by show (capEmp + (n + 256 * l) - capEmp) / 256 = l; omega
            rw [q1, q2, if_pos ⟨trivial, hn0, by omega, hmul l (by omega)⟩]
            by_cases hq : (pb.cap - a.off) / n = l
            · rw [if_pos hq, if_pos hq]
              have : (pb.cap - a.off) / n - l = 0 := by omega
              rw [this]
            · rw [if_neg hq, if_neg hq, add_none]
    · -- an empty one, whose place is not known
      unfold sliceZ at e2
      cases mx with
      | some _ => cases e2
      | none =>
        obtain ⟨hh, hhh, e3⟩ := ob_eq e2
        obtain ⟨l, hl, e4⟩ := ob_eq e3
        cases e4
        have hlen0 : len = 0 := by
          simp only [cv, cslice] at hx
          split at hx
          · cases hx
          · split at hx
            · cases hx
            · rw [if_neg (by have := nblt_f.1 hc; omega), if_neg (by have := nblt_f.1 hc2; omega)] at hx
              split at hx
              · rename_i hq; exact hq.1
              · cases hx
        subst hlen0
        obtain ⟨b, c', rfl⟩ := cv_slice_some hx
        have hh0 : hh = 0 := by
          rcases bnd_inv hhi hhh with ⟨_, _, h3⟩ | ⟨_, _, h3, _⟩ <;> omega
        have hl0 : l = 0 := by
          rcases bnd_inv hlo hl with ⟨_, _, h3⟩ | ⟨_, _, h3, _⟩ <;> omega
        subst hh0; subst hl0
        refine ⟨b, c', 0, 0, c', rfl, fun isSlice => run_sliceBounds hlo hhi hmx hno (.inl ⟨rfl, rfl⟩) ?_ hl, ?_⟩
        · rcases bnd_inv hhi hhh with ⟨h1, _, h3⟩ | ⟨q, h2, h3, _⟩
          · exact .inl ⟨h1, h3⟩
          · exact .inr ⟨q, h2, by omega⟩
        · have : (if c' = 0 then b else b.add (0 * n)) = b := by
            rw [Nat.zero_mul]
            split
            · rfl
            · simp [Addr.add]
          rw [this]
          simpa using hx
end
end Go.Am

namespace Go.Am
open Go Go.RowKit Forc

section
variable {gl : Nat} {r : Rho} {h : AHeap} {w0 w : World} {P : Program}

theorem slice_of [Atoms] [iF : Forc] (H : HR gl r h w0 w) {t : TypeId} {x x' v : Value} {lo hi mx lo' hi' mx' : Option Value} (hx : cv r x = some x')
    (hlo : cvo r lo lo') (hhi : cvo r hi hi') (hmx : cvo r mx mx') (e : sliceA (AP.of P) h t x lo hi mx = some v) :
    ∃ v', cv r v = some v' ∧ (Instr.sliceAt t x' lo' hi' mx').run P w = .ok v' w := by
  unfold sliceA at e
  obtain ⟨hno, e1⟩ := ci_else e
  obtain ⟨d, hd, e2⟩ := ob_eq e1
  have hd := und_spec hd
  clear e e1
  cases d with
  | array n et =>
    cases x with
    | pointer a =>
      obtain ⟨a, rfl, e30⟩ := ob_eq e2
      obtain ⟨hn0, e3⟩ := ci_then e30
      obtain ⟨sz, hsz, e4⟩ := ob_eq e3
      obtain ⟨j, hj, rfl⟩ := size_spec hsz
      obtain ⟨b, rfl, hb⟩ := cv_ptr_eq hx
      have hxs := cv_mk_exact (l := n) hb (nblt.1 hn0)
      obtain ⟨b', c', hh, l, m, h1, h2, h3⟩ := slice_core (P := P) H hlo hhi hmx hno hxs e4
      injection h1 with h1 _ h1'; injection h1 with h1; subst h1; subst h1'
      refine ⟨_, h3, ?_⟩
      unfold Instr.sliceAt
      simp only [Sem.run_bind, run_underlying' w hd, Result.andThen_ok, Instr.sureAddr, Sem.run_pure, h2, run_sizeOf' w hj]
    | _ => cases e2
  | string =>
    cases x with
    | string s =>
      have := cv_str_eq hx; subst this
      simp only [sliceD, sliceT] at e2
      cases mx with
      | some _ => cases e2
      | none =>
        obtain ⟨hh, hhh, e3⟩ := ob_eq e2
        obtain ⟨l, hl, e4⟩ := ob_eq e3
        cases e4
        rw [lenL_eq, size_strL] at hhh
        refine ⟨_, rfl, ?_⟩
        have hm : mx' = none := hmx
        subst hm
        have hrun := run_sliceBounds (P := P) (w := w) (isSlice := false) (len := s.size) (cap := s.size) (m := s.size) (hh := hh) (l := l) hlo hhi (mx := none) (mx' := none) rfl hno (.inl ⟨rfl, rfl⟩)
          (by rcases bnd_inv hhi hhh with ⟨h1, _, h3⟩ | ⟨q, h2, h3, _⟩
              · exact .inl ⟨h1, h3⟩
              · exact .inr ⟨q, h2, h3⟩) hl
        unfold Instr.sliceAt
        simp only [Sem.run_bind, run_underlying' w hd, Result.andThen_ok]
        unfold Instr.slice
        simp only [Sem.run_bind, run_underlying' w hd, Result.andThen_ok, Option.isSome_none, Bool.false_eq_true, if_false, hrun, Sem.run_pure]
        congr 2
        apply ByteArray.ext
        apply Array.ext'
        have hlh : l ≤ hh := by rcases bnd_inv hlo hl with ⟨_, _, h3⟩ | ⟨_, _, h3, _⟩ <;> omega
        simp [strL, List.take_drop, Nat.add_sub_of_le hlh]
    | _ => cases e2
  | slice et =>
    cases x with
    | slice a len cap =>
      simp only [sliceD, sliceV] at e2
      obtain ⟨sz, hsz, e20⟩ := ob_eq e2
      obtain ⟨j, hj, rfl⟩ := size_spec hsz
      cases a with
      | none =>
        obtain ⟨m, hm, e3⟩ := ob_eq e20
        obtain ⟨hh, hhh, e4⟩ := ob_eq e3
        obtain ⟨l, hl, e5⟩ := ob_eq e4
        obtain ⟨hz, e6⟩ := ci_then e5
        cases e6
        simp only [Bool.and_eq_true, nbeq] at hz
        obtain ⟨rfl, rfl⟩ := hz
        have := cv_slice_none hx; subst this
        refine ⟨.slice none 0 0, by simp [cv], ?_⟩
        have hm0 : m = 0 := by rcases bnd_inv hmx hm with ⟨_, _, h3⟩ | ⟨_, _, h3, _⟩ <;> omega
        have hh0 : hh = 0 := by rcases bnd_inv hhi hhh with ⟨_, _, h3⟩ | ⟨_, _, h3, _⟩ <;> omega
        have hl0 : l = 0 := by rcases bnd_inv hlo hl with ⟨_, _, h3⟩ | ⟨_, _, h3, _⟩ <;> omega
        subst hm0; subst hh0; subst hl0
        have hrun := run_sliceBounds (P := P) (w := w) (isSlice := true) (len := 0) (cap := 0) (m := 0) (hh := 0) (l := 0) hlo hhi hmx hno
          (by rcases bnd_inv hmx hm with ⟨_, h2, h3⟩ | ⟨k, h2, h3, _⟩
              · exact .inl ⟨h2, rfl⟩
              · exact .inr ⟨k, h2, Nat.le_refl _⟩)
          (by rcases bnd_inv hhi hhh with ⟨h1, _, h3⟩ | ⟨q, h2, h3, _⟩
              · exact .inl ⟨h1, rfl⟩
              · exact .inr ⟨q, h2, Nat.le_refl _⟩) hl
        unfold Instr.sliceAt
        simp only [Sem.run_bind, run_underlying' w hd, Result.andThen_ok]
        unfold Instr.slice
        simp [run_underlying' w hd, hrun, run_sizeOf' w hj]
      | some a =>
        obtain ⟨b, c', hh, l, m, rfl, h2, h3⟩ := slice_core (P := P) H hlo hhi hmx hno hx e20
        refine ⟨_, h3, ?_⟩
        unfold Instr.sliceAt
        simp only [Sem.run_bind, run_underlying' w hd, Result.andThen_ok]
        unfold Instr.slice
        simp only [Sem.run_bind, run_underlying' w hd, Result.andThen_ok, h2, run_sizeOf' w hj, Sem.run_pure]
        split <;> rfl
    | _ => cases e2
  | _ => cases e2
end
end Go.Am
