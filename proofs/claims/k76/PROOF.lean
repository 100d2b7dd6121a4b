import PyProof.Rows.All
import Wide.All
import OpenK.AllK
import Wide.FinOn
import PyProof.EqAt
import PyProof.EqKinds
import PyProof.TupleCall
import HandS.ForMost
import HandS.Exc
import HandS.Defaults
import HandS.HeadHook1
import KE.SortData
import PyProof.ReprReads
import HandS.SetFor
import HandS.Strs
import HandS.Iter
import HandS.SortInts
import PySem.PyData
import HandS.Star
import HandS.Deep
import HandS.Conv
import HandS.Style
import KE.DataCmp
import HandS.DictTup
import HandS.TryMany
import HandS.Ends
import HandS.HeadEnd
import HandS.RaiseMore
import PyProof.ReprRoads
import HandS.Dict
import HandS.More
import HandS.ExcSuper
import HandS.ExcInit
import HandS.ExcField
import KE.KExcSuper
import KE.KSuper
import HandS.HeadHook4
import PyProof.ReprBulk
import PyProof.Rows.StrJoinMade
import HandS.SetBool
import HandS.TupSets
import HandS.TupLen
import HandS.TryOnly
import HandS.Flow
import HandS.Zip
import HandS.Head2
import KE.KStateDown
import PySem.Challenge.RW_dugtold_k76_whole_rows_and_houses_of_pos
set_option Elab.async false
section
set_option Elab.async false
set_option linter.all false
set_option maxRecDepth 100000
set_option maxHeartbeats 3200000
/-! Vs8: sets of ints: made of a list, any number of members below the scan's bound; sorted. -/
namespace Vs
open PySem PySem.Spec PyProof.Rows L2
abbrev setO0 (w : World) : Obj := { cls := .type "set", dict := none, data := .set #[] 0 (.fresh 0 0 (!w.params.followText "set-order")) }
abbrev hp1 (w : World) (s : Shared) : Heap := s.heap.push (setO0 w)
section
variable {P : Program} {w : World} {A : Around} {E : Value → Shared → Prop} {s : Shared}
theorem set_of_ints {l : Addr} {items : Array Value} (ns : List Int) {Q : Value → Shared → Prop} (hh : A.handled = none) (hl : s.heap.IsList l items) (hit : IntsAre items.toList ns) (hb : ns.length + 1 < scanBound)
    (h : ∀ (h' : Heap) (tk c : Nat), SetR w h' s.heap.objs.size (fun j => decide (j ∈ ns)) c → c ≤ ns.length → (∀ b o, s.heap.get? b = some o → h'.get? b = some o) → Q (.ref s.heap.objs.size) { s with heap := h', toks := tk }) :
    wpAny (model P w) A (call (.type "set") [.ref l]) Q E s := by
  have ez : items.size = ns.length := by
    have q := IntsAre.length hit
    rw [Array.length_toList] at q
    exact q
  obtain ⟨c, tl, m0⟩ := F.called_set.mro
  have m1 := F.called_set.made
  have m2 := F.called_set.sub
  refine wpAny_call (codeAny_of_tree ?_); show wpAny _ _ (callAny (.type "set") _) _ _ _; refine wpAny_pure ⟨Code.quiet_builtin _ (by decide +kernel), codeAny_builtin F.entry_type_call ?_⟩; rw [Around.under_plain (weight_type_call_type "set" [.ref l] []) rfl]
  have m3 := F.called_set.notType
  have m4 := F.called_set.canCreate
  have m5 := F.typeCall_set_1 (.ref l)
  repeat (any_goals first | assumption | wp_step)

  refine codeAny_mono (code_set_led1 (.ref l) (E := E) (Q₁ := fun ov s1 => ov = .ref s.heap.objs.size ∧ s1 = { s with heap := hp1 w s }) ⟨rfl, rfl⟩) fun r s1 hr1 => ?_
  cases r with
  | error e => exact hr1
  | ok fw =>
    cases fw with
    | ret ov =>
      obtain ⟨rfl, rfl⟩ := hr1
      have oS : (hp1 w s).get? s.heap.objs.size = some (setO0 w) := Heap.get?_push_size _ rfl
      have tS : Shared.TypeIs { s with heap := hp1 w s } (.ref s.heap.objs.size) "set" := ⟨_, oS, rfl⟩
      have m6 := F.called_set.init.lookup
      have m7 := F.called_set.init.bind (.ref s.heap.objs.size)
      repeat (any_goals first | assumption | wp_step)

      refine codeAny_mono (codeAny_call_builtin (R := wants (fun r s9 => r = .none ∧ ∃ h' tk c, s9 = { s with heap := h', toks := tk } ∧ SetR w h' s.heap.objs.size (fun j => decide (j ∈ ns)) c ∧ c ≤ ns.length ∧
          (∀ b o, s.heap.get? b = some o → h'.get? b = some o)) E) F.called_set.init.plain F.entry_set_init (check_set_init_1 tS ?_)) fun r9 s9 hr9 => ?_
      · obtain ⟨ob, eob, ecl, cap, edt⟩ := hl
        obtain ⟨k1, k2, k3, k4⟩ := ob
        simp only at ecl edt
        subst ecl; subst edt
        have eob1 : (hp1 w s).get? l = some { cls := .type "list", dict := k2, data := .seq items cap, slots := k4 } := Heap.get?_push_of_some _ eob
        have n1 := PySem.F.sub_list_set
        have n2 := PySem.F.sub_list_frozenset
        have n3 : (Value.type "list" == Value.type "dict") = false := by decide
        have isl : (hp1 w s).IsList l items := ⟨_, eob1, rfl, cap, rfl⟩
        unfold Builtin.«set.__init__» noKeywords Builtin.Frozenset.updateFrom; generalize ePI : pyIter = PI
        wp_walk
        subst ePI

        refine wpAny_pyIter_list isl ?_
        refine wpAny_bind (wpAny_runValue ?_); clear m4
        have lt0 : l < s.heap.objs.size := Heap.lt_size eob
        have hh9 : A.in1.in1.in1.handled = none := by simp [hh]
        have sz1 : (hp1 w s).objs.size = s.heap.objs.size + 1 := Heap.size_push ..
        have neI : l ≠ (hp1 w s).objs.size := by
          rw [Heap.size_push]; exact Nat.ne_of_lt (Nat.lt_succ_of_lt lt0)
        have nmS : s.heap.objs.size ∉ [(hp1 w s).objs.size, l] := by
          rw [Heap.size_push]; simp only [List.mem_cons, List.not_mem_nil, or_false, not_or]
          exact ⟨Nat.ne_of_lt (Nat.lt_succ_self _), Nat.ne_of_gt lt0⟩
        have val : ∀ (i : Nat) (v : Value), items[i]? = some v → ∃ k t, ns[i]? = some k ∧ v = .int k t := fun i v hv => by
          have hi : i < ns.length := by rw [← ez]; exact (Array.getElem?_eq_some_iff.mp hv).1
          have ⟨t, e⟩ := PyProof.Rows.IntsAre.int_at hit i v (by rw [Array.getElem?_toList]; exact hv)
          refine ⟨ns[i], t, List.getElem?_eq_getElem hi, ?_⟩; rw [e, List.getD_eq_getElem?_getD, List.getElem?_eq_getElem hi] <;> rfl
        refine set_update_ints ((Walks.list hh9 _ l neI items).toS) s.heap.objs.size
          nmS ns ez hb val (items.size - 0) 0 _ (by omega) (Nat.zero_le _)
          ⟨⟨_, Heap.get?_push_size _ rfl, rfl, rfl⟩, (isl.push _)⟩ ?hS0 ?hR
        case hS0 =>
          have gS : ((hp1 w s).push { cls := .type "list_iterator", data := .fields #[.ref l, .int 0 0] }).get? s.heap.objs.size
              = some (setO0 w) := Heap.get?_push_of_some _ oS
          exact ⟨0, Nat.le_refl 0, setR_new_at gS⟩
        case hR =>
          intro s' c1 mv lc rS
          obtain ⟨h', g9, d9, tk9, os9⟩ := s'
          have e1 : g9 = s.gens := mv.gens
          have e2 : d9 = s.drawn := mv.drawn
          have e3 : os9 = s.os := mv.os
          subst e1; subst e2; subst e3
          show wpAny _ _ _ _ _ _
          refine wpAny_pure ?_; show wpAny _ _ (ret Value.none) _ _ _
          rw [ez] at lc
          refine wpAny_pure ⟨rfl, h', tk9, c1, rfl, rS, lc, fun b o e => ?_⟩
          have b0 : b < s.heap.objs.size := Heap.lt_size e
          have b1 : b ≠ s.heap.objs.size := Nat.ne_of_lt b0
          have b2 : b ≠ (hp1 w s).objs.size := by
            rw [Heap.size_push]; exact Nat.ne_of_lt (Nat.lt_succ_of_lt b0)
          exact mv.heap b o (by simp only [List.mem_cons, List.mem_singleton, List.not_mem_nil, or_false, not_or]; exact ⟨b1, b2⟩) (Heap.get?_push_of_some _ (Heap.get?_push_of_some _ e))

      · cases r9 with
        | error e => exact hr9
        | ok fw2 =>
          cases fw2 with
          | ret r =>
            obtain ⟨rfl, h', tk, c1, rfl, rS, lc, kp⟩ := hr9
            repeat (any_goals first | assumption | wp_step)
            exact h _ _ _ rS lc kp
          | _ => exact hr9.elim
    | _ => exact hr1.elim


/-- sorted(set), any number of ints -/
theorem sorted_ints {S : Int → Bool} {n : Nat} {Q : Value → Shared → Prop} (R : SetR w s.heap a S n) (hh : A.handled = none) (hu : A.units + 8 < cLine)
    (hQ : ∀ s' p (out : Array Value) (c : Nat) (ns : List Int), (∀ b o, s.heap.get? b = some o → s'.heap.get? b = some o) → s'.gens = s.gens → s'.os = s.os → s.heap.objs.size ≤ p →
      s'.heap.get? p = some (seqObj "list" out c) → IntsAre out.toList ns → ns.Pairwise (· ≤ ·) → ns.Nodup → (∀ k, k ∈ ns ↔ S k = true) → ns.length = n → Q (.ref p) s') :
    wpAny (model P w) A (call (.builtin "sorted") [.ref a]) Q E s := by
  have ⟨o, es, ep, t, ho, hex, hd, g, nd, hm, hb, hf, hn, hr, hl⟩ := R; refine Calls.call_function_entry kind_sorted plain_sorted entry_sorted (args_sorted1 _) ?_
  unfold Builtin.«sorted»
  refine wpAny_bind (m := checkCount "sorted" 1 1 _) (wpAny_pure ?_); refine wpAny_bind (collect_set (A := A.in1) hh ⟨o, ho, hex.1, hd⟩ hf hb hr hl fun s1 vs k1 hz g1 o1 pm => ?_)
  have hvl : vs.length = n := by
    have q := pm.length_eq
    simpa [hn] using q
  have hI : IntsAre vs (vs.map Builtin.Re.reRawOf) := L2.ints_of vs fun v hv => by
    have ⟨e, he, q⟩ := List.mem_map.mp (pm.mem_iff.mp hv); obtain ⟨k, tk, q1, _⟩ := g e he
    exact ⟨k, tk, q.symm.trans q1⟩
  have pk : (vs.map Builtin.Re.reRawOf).Perm (es.toList.map keyOf) := by
    have q := pm.map Builtin.Re.reRawOf
    rw [List.map_map] at q; exact q
  have hlen : vs.length ≤ sizeLine := by rw [hvl, sizeLine_eq, ← hn]; unfold scanBound at hb; omega
  refine wpAny_bind (wpAny_newList ?_ hlen)
  have hoL : (s1.heap.push (seqObj "list" vs.toArray 0)).get? s1.heap.objs.size = some (seqObj "list" vs.toArray 0) := Heap.get?_push_size _ rfl
  have each : ∀ {us : List Value} {is : List Int}, IntsAre us is → PySem.W.EachIs (fun u i => ∃ t, u = Value.int i t) us is ∧ PySem.W.EachIs (fun u i => ∃ as, Reads (s1.heap.push (seqObj "list" vs.toArray 0)) u (.int i) as ∧ s1.heap.objs.size ∉ as) us is := fun h => by
    induction h with
    | nil => exact ⟨.nil, .nil⟩
    | cons i t _ ih => exact ⟨.cons ⟨t, rfl⟩ ih.1, .cons ⟨[], .int i t, by simp⟩ ih.2⟩
  obtain ⟨e1, e2⟩ := each hI
  have al : PySem.W.AllAlike ((vs.map Builtin.Re.reRawOf).map PyData.int) := PySem.W.AllAlike.of (enc := PyData.int) fun b b' => by simp [PySem.W.alike]
  refine wpAny_bind (wpAny_holding (PySem.W.list_sort_data (s := { s1 with heap := s1.heap.push (seqObj "list" vs.toArray 0) }) (enc := PyData.int) hoL e1 e2 al (PySem.W.Sortable.others fun b => ⟨fun h => (by cases h), fun _ h => (by cases h)⟩) (by rw [List.length_map]; exact hlen) (fun b _ => by
    rw [PyData.depth]
    show A.units + 1 + 1 + 0 < cLine
    omega) fun out ho2 eo => ?_))
  obtain ⟨c, hc⟩ := sortedHeap_at (vs := vs) (out := out.toArray) hoL
  have back : ∀ {us : List Value} {is : List Int}, PySem.W.EachIs (fun u i => ∃ t, u = Value.int i t) us is → IntsAre us is := fun h => by
    induction h with
    | nil => exact .nil
    | cons r _ ih => obtain ⟨t, rfl⟩ := r; exact .cons _ t ih
  have pn : ((vs.map Builtin.Re.reRawOf).mergeSort (PySem.W.dataLe false PyData.int)).Perm (es.toList.map keyOf) := (List.mergeSort_perm _ _).trans pk
  have so : ((vs.map Builtin.Re.reRawOf).mergeSort (PySem.W.dataLe false PyData.int)).Pairwise (· ≤ ·) := by
    rw [show PySem.W.dataLe false PyData.int = fun a b => decide (a ≤ b) from PySem.W.dataLe_int (fun i : Int => i)]
    refine (List.pairwise_mergeSort (le := fun a b : Int => decide (a ≤ b)) (fun a b c h1 h2 => ?_) (fun a b => ?_) _).imp fun h => of_decide_eq_true h
    · simp only [decide_eq_true_eq] at h1 h2 ⊢; omega
    · simp only [Bool.or_eq_true, decide_eq_true_eq]; omega
  refine wpAny_pure ⟨_, rfl, hQ _ s1.heap.objs.size _ c _ (fun b u e => ?_) g1 o1 hz hc (back eo) so (pn.nodup_iff.mpr nd) (fun k => by rw [pn.mem_iff, ← hm k]) (by rw [List.length_mergeSort, List.length_map, hvl])⟩
  have q := k1 b u e
  have hlt := Heap.lt_size q
  show (sortedHeap (s1.heap.push (seqObj "list" vs.toArray 0)) s1.heap.objs.size vs out.toArray).get? b = some u
  rw [sortedHeap_old (Nat.ne_of_lt hlt) (by rw [size_push']; exact Nat.lt_succ_of_lt hlt)]
  exact Heap.get?_push_of_some _ q
end
end Vs
end
section
set_option autoImplicit false
/-! Vs0: the plain part: results, encodings, the operations that mirrors are written in. -/
namespace Vs
open PySem

/-- what a piece of Python gives: a value, an error of the program's own (class, at), or nothing that we speak of -/
inductive Res (α : Type) where
  | ok (a : α)
  | exc (c : Str) (i : Int)
  | stuck
namespace Res
variable {α β γ : Type}
def bind (m : Res α) (f : α → Res β) : Res β := match m with
  | .ok a => f a
  | .exc c i => .exc c i
  | .stuck => .stuck
def map (f : α → β) (m : Res α) : Res β := match m with
  | .ok a => .ok (f a)
  | .exc c i => .exc c i
  | .stuck => .stuck
instance : Monad Res where
  pure := .ok
  bind := Res.bind
@[simp] theorem ok_bind (a : α) (f : α → Res β) : (Res.ok a >>= f) = f a := rfl
@[simp] theorem exc_bind (c : Str) (i : Int) (f : α → Res β) : ((Res.exc c i : Res α) >>= f) = .exc c i := rfl
@[simp] theorem stuck_bind (f : α → Res β) : ((Res.stuck : Res α) >>= f) = .stuck := rfl
@[simp] theorem pure_eq (a : α) : (pure a : Res α) = .ok a := rfl
@[simp] theorem map_ok (f : α → β) (a : α) : (Res.ok a).map f = .ok (f a) := rfl
@[simp] theorem map_exc (f : α → β) (c : Str) (i : Int) : (Res.exc c i : Res α).map f = .exc c i := rfl
@[simp] theorem map_stuck (f : α → β) : (Res.stuck : Res α).map f = .stuck := rfl
theorem bind_assoc' (m : Res α) (f : α → Res β) (g : β → Res γ) : ((m >>= f) >>= g) = (m >>= fun x => f x >>= g) := by
  cases m <;> rfl
theorem bind_ok (m : Res α) : (m >>= fun x => Res.ok x) = m := by cases m <;> rfl
theorem map_eq_bind (f : α → β) (m : Res α) : m.map f = (m >>= fun x => .ok (f x)) := by cases m <;> rfl
theorem map_bind (m : Res α) (f : α → Res β) (g : β → γ) : (m >>= f).map g = (m >>= fun x => (f x).map g) := by cases m <;> rfl
theorem bind_map (m : Res α) (f : α → β) (g : β → Res γ) : (m.map f >>= g) = (m >>= fun x => g (f x)) := by cases m <;> rfl
theorem ite_bind (c : Prop) [Decidable c] (a b : Res α) (f : α → Res β) : ((if c then a else b) >>= f) = if c then a >>= f else b >>= f := by
  split <;> rfl
theorem eq_ok_of_bind {m : Res α} {f : α → Res β} {b : β} (h : (m >>= f) = .ok b) : ∃ a, m = .ok a ∧ f a = .ok b := by
  cases m with
  | ok a => exact ⟨a, rfl, h⟩
  | exc c i => cases h
  | stuck => cases h
end Res

/-! ### data -/
class Enc (α : Type) where
  toD : α → PyData
open Enc (toD)
/-- a text of code points -/
abbrev PStr := { x : Str // x.cps.all (· < 0x110000) = true }
structure Tup (α : Type) where
  l : List α
  deriving DecidableEq
structure T3 (α β γ : Type) where
  (a : α) (b : β) (c : γ)
  deriving DecidableEq
structure T4 (α β γ δ : Type) where
  (a : α) (b : β) (c : γ) (d : δ)
  deriving DecidableEq
structure T5 (α β γ δ ε : Type) where
  (a : α) (b : β) (c : γ) (d : δ) (e : ε)
  deriving DecidableEq
structure Dict (κ α : Type) where
  l : List (κ × α)
  deriving DecidableEq
/-- the script as it comes: a list that nobody may change -/
structure Scr where
  l : List Int
/-- keys: tuples, or not -/
class DKey (κ : Type) where
  tk : Bool
section
variable {α β γ δ ε : Type}
instance : Enc Int := ⟨.int⟩
instance : Enc Bool := ⟨.bool⟩
instance : Enc PStr := ⟨fun x => .str x.1⟩
/-- a written text -/
def ps (s : String) (h : (Str.ofString s).cps.all (· < 0x110000) = true := by decide +kernel) : PStr := ⟨Str.ofString s, h⟩
instance : Enc Unit := ⟨fun _ => .none⟩
instance [Enc α] : Enc (List α) := ⟨fun xs => .list (xs.map toD)⟩
instance [Enc α] : Enc (Tup α) := ⟨fun xs => .tuple (xs.l.map toD)⟩
instance [Enc α] [Enc β] : Enc (α × β) := ⟨fun p => .tuple [toD p.1, toD p.2]⟩
instance [Enc α] [Enc β] [Enc γ] : Enc (T3 α β γ) := ⟨fun p => .tuple [toD p.a, toD p.b, toD p.c]⟩
instance [Enc α] [Enc β] [Enc γ] [Enc δ] : Enc (T4 α β γ δ) := ⟨fun p => .tuple [toD p.a, toD p.b, toD p.c, toD p.d]⟩
instance [Enc α] [Enc β] [Enc γ] [Enc δ] [Enc ε] : Enc (T5 α β γ δ ε) := ⟨fun p => .tuple [toD p.a, toD p.b, toD p.c, toD p.d, toD p.e]⟩
instance [Enc α] : Enc (Option α) := ⟨fun o => match o with | none => .none | some a => toD a⟩
instance : DKey Int := ⟨false⟩
instance : DKey PStr := ⟨false⟩
instance : DKey (Tup α) := ⟨true⟩
instance : DKey (α × β) := ⟨true⟩
instance : DKey (T3 α β γ) := ⟨true⟩
instance [Enc α] [Enc β] [DKey α] : Enc (Dict α β) := ⟨fun d => .dict ((.bool (DKey.tk α), .none) :: d.l.map fun p => (toD p.1, toD p.2))⟩
instance : Enc Scr := ⟨fun s => .dict [(.none, .list (s.l.map toD))]⟩
/-- a constant of the module that is a tuple -/
structure CTup (α : Type) where
  l : List α
  deriving DecidableEq
instance {α : Type} [Enc α] : Enc (CTup α) := ⟨fun s => .dict [(.none, .tuple (s.l.map toD))]⟩
/-- a text that repr gave -/
structure RTx where
  s : Str
  deriving DecidableEq
instance : Enc RTx := ⟨fun x => .str x.s⟩
/-- a caught error: it stands at a, its own dict at dx, its number i -/
structure ERef where
  (a dx : Nat) (i : Int)
instance : Enc ERef := ⟨fun e => .dict [(.int e.a, .int e.dx), (.none, .int e.i)]⟩
/-- a def as a value -/
structure FnRef where
  a : Nat
instance : Enc FnRef := ⟨fun f => .dict [(.str Str.empty, .int f.a)]⟩
/-- a value of a kind that is not told -/
structure Dyn where
  d : PyData
instance : Enc Dyn := ⟨fun x => x.d⟩
def dynR [Enc α] (x : α) : Dyn := ⟨toD x⟩
/-- one of two kinds -/
instance [Enc α] [Enc β] : Enc (α ⊕ β) := ⟨fun x => match x with | .inl a => toD a | .inr b => toD b⟩
end

/-! ### numbers -/
def lim : Nat := 16777216
def big : Int := 18446744073709551616
/-- one factor below 2 ^ 64 -/
def mulI (a b : Int) : Res Int := if (-big < a ∧ a < big) ∨ (-big < b ∧ b < big) then .ok (a * b) else .stuck
def fdivI (a b : Int) : Res Int := if b ≠ 0 ∧ b.natAbs < 1073741824 then .ok (a.fdiv b) else .stuck
def modI (a b : Int) : Res Int := if b ≠ 0 then .ok (a.fmod b) else .stuck
def powI (a b : Int) : Res Int := if 0 ≤ b ∧ b ≤ 1000000 ∧ (a.natAbs : Int) < big then .ok (a ^ b.toNat) else .stuck
def absI (a : Int) : Int := if a < 0 then -a else a
def min2 (a b : Int) : Int := if b < a then b else a
def max2 (a b : Int) : Int := if b > a then b else a
def boolI (b : Bool) : Int := if b then 1 else 0

/-! ### lists -/
section
variable {α β γ σ Ω : Type}
def mkL (xs : List α) : Res (List α) := if xs.length ≤ lim then .ok xs else .stuck
def pushL (xs : List α) (y : α) : Res (List α) := mkL (xs ++ [y])
def catL (xs ys : List α) : Res (List α) := mkL (xs ++ ys)
def repL (xs : List α) (k : Int) : Res (List α) := if -(2 ^ 63) ≤ k ∧ k < 2 ^ 63 ∧ xs.length * k.toNat ≤ lim then .ok (List.replicate k.toNat xs).flatten else .stuck
def idx (n : Nat) (i : Int) : Option Nat := if 0 ≤ i then (if i < n then some i.toNat else none) else if -(n : Int) ≤ i then some (i + n).toNat else none
def getL (xs : List α) (i : Int) : Res α := match (idx xs.length i).bind fun j => xs[j]? with
  | some v => .ok v
  | none => .stuck
def setL (xs : List α) (i : Int) (v : α) : Res (List α) := match idx xs.length i with
  | some j => .ok (xs.set j v)
  | none => .stuck
def lenL (xs : List α) : Int := xs.length
/-- a slice's bound -/
def bnd (n d : Nat) : Option Int → Nat
  | none => d
  | some i => if i < 0 then (max (i + n) 0).toNat else (min i n).toNat
def cutL (xs : List α) (lo hi : Option Int) : List α := (xs.drop (bnd xs.length 0 lo)).take (bnd xs.length xs.length hi - bnd xs.length 0 lo)
def rangeL (lo hi : Int) : List Int := (List.range (hi - lo).toNat).map fun (k : Nat) => lo + (k : Int)
def rangeR (lo hi : Int) : Res (List Int) := if -(2 ^ 62) ≤ lo ∧ lo < 2 ^ 62 ∧ -(2 ^ 62) ≤ hi ∧ hi < 2 ^ 62 ∧ (hi - lo).toNat ≤ lim then .ok (rangeL lo hi) else .stuck
def enumL (xs : List α) : List (Int × α) := xs.zipIdx.map fun p => ((p.2 : Int), p.1)
def sumI (xs : List Int) : Int := xs.sum
def maxL : List Int → Res Int
  | [] => .stuck
  | x :: xs => .ok (xs.foldl max x)
def minL : List Int → Res Int
  | [] => .stuck
  | x :: xs => .ok (xs.foldl min x)
/-- the first place of an item -/
def indexL [DecidableEq α] (xs : List α) (y : α) : Res Int := if y ∈ xs then .ok (xs.idxOf y : Nat) else .stuck

/-! ### loops -/
/-- no error leaves a comprehension's block -/
def noX (m : Res α) : Res α := match m with
  | .ok a => .ok a
  | _ => .stuck
@[simp] theorem noX_ok (a : α) : noX (.ok a) = .ok a := rfl
@[simp] theorem noX_stuck : noX (.stuck : Res α) = .stuck := rfl
theorem noX_no {m : Res α} {c : Str} {i : Int} : noX m ≠ .exc c i := by cases m <;> intro h <;> cases h
/-- [f x for x in xs if t x] -/
def lcR (t : α → Res Bool) (f : α → Res β) : List α → Res (List β)
  | [] => .ok []
  | x :: xs => do
    let b ← noX (t x)
    if b then do
      let y ← noX (f x)
      let ys ← lcR t f xs
      .ok (y :: ys)
    else lcR t f xs
def lc2C (t : α → Res Bool) (g : α → Res (List β)) : List α → Res (List β)
  | [] => .ok []
  | x :: xs => do
    let b ← noX (t x)
    if b then do
      let y ← noX (g x)
      let ys ← lc2C t g xs
      .ok (y ++ ys)
    else lc2C t g xs
/-- [f x y for x in xs if t x for y in ys x if u x y] -/
def lc2R (t : α → Res Bool) (ys : α → Res (List γ)) (u : α → γ → Res Bool) (f : α → γ → Res β) (xs : List α) : Res (List β) := do
  let r ← lc2C t (fun x => do
    let zs ← ys x
    lcR (u x) (f x) zs) xs
  mkL r
def foldR (f : σ → α → Res σ) : List α → σ → Res σ
  | [], s => .ok s
  | x :: xs, s => do
    let s' ← f s x
    foldR f xs s'
/-- how a block ends that may leave -/
inductive Ctl (Ω σ : Type) where
  | ex (o : Ω)
  | nx (s : σ)
def foldC (f : σ → α → Res (Ctl Ω σ)) : List α → σ → Res (Ctl Ω σ)
  | [], s => .ok (.nx s)
  | x :: xs, s => do
    match ← f s x with
    | .ex o => .ok (.ex o)
    | .nx s' => foldC f xs s'
def whileN (c : σ → Res Bool) (b : σ → Res σ) : Nat → σ → Res σ
  | 0, _ => .stuck
  | n + 1, s => do
    let k ← c s
    if k then do
      let s' ← b s
      whileN c b n s'
    else .ok s
def whileNC (c : σ → Res Bool) (b : σ → Res (Ctl Ω σ)) : Nat → σ → Res (Ctl Ω σ)
  | 0, _ => .stuck
  | n + 1, s => do
    let k ← c s
    if k then do
      match ← b s with
      | .ex o => .ok (.ex o)
      | .nx s' => whileNC c b n s'
    else .ok (.nx s)
open Classical in
noncomputable def whileR (c : σ → Res Bool) (b : σ → Res σ) (s : σ) : Res σ := if h : ∃ n, whileN c b n s ≠ .stuck then whileN c b (choose h) s else .stuck
open Classical in
noncomputable def whileC (c : σ → Res Bool) (b : σ → Res (Ctl Ω σ)) (s : σ) : Res (Ctl Ω σ) := if h : ∃ n, whileNC c b n s ≠ .stuck then whileNC c b (choose h) s else .stuck

theorem whileN_succ (c : σ → Res Bool) (b : σ → Res σ) : ∀ n s, whileN c b n s ≠ .stuck → whileN c b (n + 1) s = whileN c b n s
  | 0, _, h => absurd rfl h
  | n + 1, s, h => by
    show (c s >>= fun k => if k then b s >>= whileN c b (n + 1) else .ok s) = (c s >>= fun k => if k then b s >>= whileN c b n else .ok s)
    have h' : (c s >>= fun k => if k then b s >>= whileN c b n else .ok s) ≠ .stuck := h
    cases e : c s with
    | ok k =>
      rw [e] at h'
      cases k with
      | false => rfl
      | true =>
        simp only [Res.ok_bind, if_true] at h' ⊢
        cases e2 : b s with
        | ok s' =>
          rw [e2] at h'
          exact whileN_succ c b n s' h'
        | exc c i => rfl
        | stuck => rfl
    | exc c i => rfl
    | stuck => rfl
theorem whileN_mono {c : σ → Res Bool} {b : σ → Res σ} {n m : Nat} {s : σ} (h : whileN c b n s ≠ .stuck) (hm : n ≤ m) : whileN c b m s = whileN c b n s := by
  induction hm with
  | refl => rfl
  | @step m _ ih => rw [whileN_succ c b m s (by rw [ih]; exact h), ih]
theorem whileR_eq {c : σ → Res Bool} {b : σ → Res σ} {n : Nat} {s : σ} (h : whileN c b n s ≠ .stuck) : whileR c b s = whileN c b n s := by
  have hx : ∃ n, whileN c b n s ≠ .stuck := ⟨n, h⟩
  unfold whileR
  rw [dif_pos hx]
  have hc := Classical.choose_spec hx
  rcases Nat.le_total n (Classical.choose hx) with hl | hl
  · exact whileN_mono h hl
  · exact (whileN_mono hc hl).symm
theorem whileR_ne {c : σ → Res Bool} {b : σ → Res σ} {s : σ} (h : whileR c b s ≠ .stuck) : ∃ n, whileN c b n s ≠ .stuck ∧ whileR c b s = whileN c b n s := by
  unfold whileR at h
  split at h
  · rename_i hx
    exact ⟨_, h, whileR_eq h⟩
  · exact absurd rfl h
theorem whileR_unfold (c : σ → Res Bool) (b : σ → Res σ) (s : σ) : whileR c b s = (c s >>= fun k => if k then b s >>= whileR c b else .ok s) := by
  by_cases hx : ∃ n, whileN c b n s ≠ .stuck
  · obtain ⟨n, h⟩ := hx
    rw [whileR_eq h]
    cases n with
    | zero => exact absurd rfl h
    | succ n =>
      have h' : (c s >>= fun k => if k then b s >>= whileN c b n else .ok s) ≠ .stuck := h
      show (c s >>= fun k => if k then b s >>= whileN c b n else .ok s) = _
      cases e : c s with
      | ok k =>
        rw [e] at h'
        cases k with
        | false => rfl
        | true =>
          simp only [Res.ok_bind, if_true] at h' ⊢
          cases e2 : b s with
          | ok s' =>
            rw [e2] at h'
            exact (whileR_eq (n := n) h').symm
          | exc c i => rfl
          | stuck => rfl
      | exc c i => rfl
      | stuck => rfl
  · have e0 : whileR c b s = .stuck := by unfold whileR; rw [dif_neg hx]
    rw [e0]
    cases e : c s with
    | ok k =>
      cases k with
      | false =>
        refine absurd ⟨1, ?_⟩ hx
        show (c s >>= fun k => if k then b s >>= whileN c b 0 else .ok s) ≠ .stuck
        rw [e]
        simp
      | true =>
        simp only [Res.ok_bind, if_true]
        cases e2 : b s with
        | ok s' =>
          simp only [Res.ok_bind]
          by_cases hy : whileR c b s' = .stuck
          · exact hy.symm
          · obtain ⟨n, h1, h2⟩ := whileR_ne hy
            refine absurd ⟨n + 1, ?_⟩ hx
            show (c s >>= fun k => if k then b s >>= whileN c b n else .ok s) ≠ .stuck
            rw [e]
            simp only [Res.ok_bind, if_true, e2]
            exact h1
        | exc c' i =>
          refine absurd ⟨1, ?_⟩ hx
          show (c s >>= fun k => if k then b s >>= whileN c b 0 else .ok s) ≠ .stuck
          rw [e]
          simp [e2]
        | stuck => rfl
    | exc c' i =>
      refine absurd ⟨1, ?_⟩ hx
      show (c s >>= fun k => if k then b s >>= whileN c b 0 else .ok s) ≠ .stuck
      rw [e]
      simp
    | stuck => rfl
end

/-! ### order -/
class Ord1 (α : Type) where
  lt : α → α → Bool
  /-- which lists can be sorted -/
  sb : List α → Bool
section
variable {α β γ δ : Type}
instance : Ord1 Int := ⟨fun a b => decide (a < b), fun _ => true⟩
instance : Ord1 PStr := ⟨fun a b => decide (a.1.cps.toList < b.1.cps.toList), fun _ => true⟩
instance : Ord1 Bool := ⟨fun a b => !a && b, fun _ => true⟩
def ltRow [Ord1 α] [DecidableEq α] : List α → List α → Bool
  | [], [] => false
  | [], _ :: _ => true
  | _ :: _, [] => false
  | x :: xs, y :: ys => if x = y then ltRow xs ys else Ord1.lt x y
instance [Ord1 α] [DecidableEq α] : Ord1 (List α) := ⟨ltRow, fun _ => true⟩
instance [Ord1 α] [DecidableEq α] : Ord1 (Tup α) := ⟨fun a b => ltRow a.l b.l, fun xs => xs.all fun x => !x.l.isEmpty⟩
instance [Ord1 α] [DecidableEq α] [Ord1 β] : Ord1 (α × β) := ⟨fun a b => if a.1 = b.1 then Ord1.lt a.2 b.2 else Ord1.lt a.1 b.1, fun _ => true⟩
instance [Ord1 α] [DecidableEq α] [Ord1 β] [DecidableEq β] [Ord1 γ] : Ord1 (T3 α β γ) := ⟨fun a b => if a.a = b.a then (if a.b = b.b then Ord1.lt a.c b.c else Ord1.lt a.b b.b) else Ord1.lt a.a b.a, fun _ => true⟩
instance [Ord1 α] [DecidableEq α] [Ord1 β] [DecidableEq β] [Ord1 γ] [DecidableEq γ] [Ord1 δ] : Ord1 (T4 α β γ δ) := ⟨fun a b => if a.a = b.a then (if a.b = b.b then (if a.c = b.c then Ord1.lt a.d b.d else Ord1.lt a.c b.c) else Ord1.lt a.b b.b) else Ord1.lt a.a b.a, fun _ => true⟩
def sortP [Ord1 α] (xs : List α) : List α := xs.mergeSort fun a b => !Ord1.lt b a
def sortL [Ord1 α] (xs : List α) : Res (List α) := if Ord1.sb xs = true then .ok (sortP xs) else .stuck
/-- each member once -/
def dedup [DecidableEq α] : List α → List α
  | [] => []
  | x :: xs => if x ∈ xs then dedup xs else x :: dedup xs
theorem mem_dedup [DecidableEq α] {y : α} : ∀ {xs : List α}, y ∈ dedup xs ↔ y ∈ xs
  | [] => Iff.rfl
  | x :: xs => by
    unfold dedup
    by_cases h : x ∈ xs
    · rw [if_pos h, mem_dedup, List.mem_cons]
      exact ⟨.inr, fun e => e.elim (fun e => e ▸ h) id⟩
    · rw [if_neg h, List.mem_cons, List.mem_cons, mem_dedup]
theorem nodup_dedup [DecidableEq α] : ∀ xs : List α, (dedup xs).Nodup
  | [] => List.nodup_nil
  | x :: xs => by
    unfold dedup
    by_cases h : x ∈ xs
    · rw [if_pos h]; exact nodup_dedup xs
    · rw [if_neg h]; exact List.nodup_cons.mpr ⟨fun e => h (mem_dedup.mp e), nodup_dedup xs⟩
/-- set(xs), then sorted -/
def sortS [Ord1 α] [DecidableEq α] (xs : List α) : List α := sortP (dedup xs)
end
/-- what a set is made of: fewer than the scan's bound -/
def setI (xs : List Int) : Res (List Int) := if xs.length < 4095 then .ok xs else .stuck

/-! ### dicts -/
section
variable {κ α : Type} [DecidableEq κ]
def putP (l : List (κ × α)) (k : κ) (x : α) : List (κ × α) := if (l.any fun p => decide (p.1 = k)) = true then l.map (fun p => if p.1 = k then (p.1, x) else p) else l ++ [(k, x)]
def valP (l : List (κ × α)) (k : κ) : Option α := (l.find? fun p => decide (p.1 = k)).map (·.2)
def Dict.getR (d : Dict κ α) (k : κ) : Res α := match valP d.l k with
  | some x => .ok x
  | none => .stuck
def Dict.putR (d : Dict κ α) (k : κ) (x : α) : Res (Dict κ α) := if d.l.length < lim then .ok ⟨putP d.l k x⟩ else .stuck
def Dict.has (d : Dict κ α) (k : κ) : Bool := (valP d.l k).isSome
def Dict.keys (d : Dict κ α) : List κ := d.l.map (·.1)
end
end Vs
end
section
set_option Elab.async false
set_option linter.all false
set_option maxRecDepth 100000
set_option maxHeartbeats 1000000
/-! Vs1: the judgements: an expression, a test, arguments, a block do what a mirror says. -/
namespace Vs
open Enc (toD)
open PySem PySem.Spec PyProof.Rows L2
abbrev St := L2.St

/-! ### frozen data -/
def keyD : Key → PyData
  | .inl k => .int k
  | .inr x => .str x
/-- a tuple: made by the run, or a constant -/
def TpA (K : PySem.W.Frag) (F : Hp) (a : Addr) (xs : List V) : Prop := F a = some (.tup xs)
theorem TpA.sq {K : PySem.W.Frag} {F : Hp} {a : Addr} {xs : List V} (h : TpA K F a xs) : SqT K F a xs := .inl (.inl h)
theorem TpA.sub {K : PySem.W.Frag} {F F' : Hp} {a : Addr} {xs : List V} (s : ∀ a o, F a = some o → F' a = some o) (h : TpA K F a xs) : TpA K F' a xs := s _ _ h
/-- a constant of the module: a tuple that the run has not made -/
def TpC (K : PySem.W.Frag) (a : Addr) (xs : List V) : Prop := ∀ H : Hp, SqT K H a xs
mutual
inductive Rp (K : PySem.W.Frag) (F : Hp) : V → PyData → Prop
  | non : Rp K F .non .none
  | bl (b : Bool) : Rp K F (.bl b) (.bool b)
  | int (i : Int) : Rp K F (.int i) (.int i)
  | str (x : Str) : Rp K F (.str x) (.str x)
  | lst {a : Addr} {xs : List V} {ds : List PyData} : F a = some (.lst xs) → RpAll K F xs ds → Rp K F (.ref a) (.list ds)
  | tup {a : Addr} {xs : List V} {ds : List PyData} : TpA K F a xs → RpAll K F xs ds → Rp K F (.ref a) (.tuple ds)
  | dk {a : Addr} {o : Obj} {kvs : List (Key × V)} {ds : List (PyData × PyData)} : F a = some (.frz o (.dK kvs)) → RpK K F kvs ds → Rp K F (.ref a) (.dict ((.bool false, .none) :: ds))
  | dt {a : Addr} {o : Obj} {kvs : List (List Key × V)} {ds : List (PyData × PyData)} : F a = some (.frz o (.dT kvs)) → RpT K F kvs ds → Rp K F (.ref a) (.dict ((.bool true, .none) :: ds))
  | ex {a dx : Addr} {i : Int} : F dx = some (.xd [(("at" : Str), .int i)]) → Rp K F (.ref a) (.dict [(.int (a : Nat), .int (dx : Nat)), (.none, .int i)])
  | fn {a : Addr} : Rp K F (.ref a) (.dict [(.str Str.empty, .int (a : Nat))])
  | scr {a : Addr} {xs : List V} {ds : List PyData} : SqL K F a xs → RpAll K F xs ds → Rp K F (.ref a) (.dict [(.none, .list ds)])
  | ctup {a : Addr} {xs : List V} {ds : List PyData} : TpC K a xs → RpAll K F xs ds → Rp K F (.ref a) (.dict [(.none, .tuple ds)])
inductive RpAll (K : PySem.W.Frag) (F : Hp) : List V → List PyData → Prop
  | nil : RpAll K F [] []
  | cons {v : V} {vs : List V} {d : PyData} {ds : List PyData} : Rp K F v d → RpAll K F vs ds → RpAll K F (v :: vs) (d :: ds)
inductive RpK (K : PySem.W.Frag) (F : Hp) : List (Key × V) → List (PyData × PyData) → Prop
  | nil : RpK K F [] []
  | cons {k : Key} {v : V} {r : List (Key × V)} {d : PyData} {ds : List (PyData × PyData)} : Rp K F v d → RpK K F r ds → RpK K F ((k, v) :: r) ((keyD k, d) :: ds)
inductive RpT (K : PySem.W.Frag) (F : Hp) : List (List Key × V) → List (PyData × PyData) → Prop
  | nil : RpT K F [] []
  | cons {k : List Key} {v : V} {r : List (List Key × V)} {d : PyData} {ds : List (PyData × PyData)} : Rp K F v d → RpT K F r ds → RpT K F ((k, v) :: r) ((.tuple (k.map keyD), d) :: ds)
end
abbrev Sub (F F' : Hp) : Prop := ∀ a o, F a = some o → F' a = some o
theorem sub_rd {F F' : Hp} (h : Sub F F') {a : Addr} {u : HO} (r : Rd F a u) : Rd F' a u := by
  rcases r with r | ⟨o, r⟩
  · exact .inl (h _ _ r)
  · exact .inr ⟨o, h _ _ r⟩
theorem sub_seqL {K : PySem.W.Frag} {F F' : Hp} (h : Sub F F') {a : Addr} {xs : List V} (r : SqL K F a xs) : SqL K F' a xs := by
  rcases r with r | r
  · exact .inl (sub_rd h r)
  · exact .inr r
theorem sub_seqT {K : PySem.W.Frag} {F F' : Hp} (h : Sub F F') {a : Addr} {xs : List V} (r : SqT K F a xs) : SqT K F' a xs := by
  rcases r with r | r
  · exact .inl (sub_rd h r)
  · exact .inr r
section
variable {K : PySem.W.Frag} {F F' : Hp}
mutual
theorem Rp.sub (h : Sub F F') : ∀ {v : V} {d : PyData}, Rp K F v d → Rp K F' v d
  | _, _, .non => .non
  | _, _, .bl b => .bl b
  | _, _, .int b => .int b
  | _, _, .str b => .str b
  | _, _, .lst a b => .lst (h _ _ a) (RpAll.sub h b)
  | _, _, .tup a b => .tup (a.sub h) (RpAll.sub h b)
  | _, _, .dk a b => .dk (h _ _ a) (RpK.sub h b)
  | _, _, .dt a b => .dt (h _ _ a) (RpT.sub h b)
  | _, _, .ex a => .ex (h _ _ a)
  | _, _, .fn => .fn
  | _, _, .scr a b => .scr (sub_seqL h a) (RpAll.sub h b)
  | _, _, .ctup a b => .ctup a (RpAll.sub h b)
theorem RpAll.sub (h : Sub F F') : ∀ {v : List V} {d : List PyData}, RpAll K F v d → RpAll K F' v d
  | _, _, .nil => .nil
  | _, _, .cons a b => .cons (Rp.sub h a) (RpAll.sub h b)
theorem RpK.sub (h : Sub F F') : ∀ {v : List (Key × V)} {d : List (PyData × PyData)}, RpK K F v d → RpK K F' v d
  | _, _, .nil => .nil
  | _, _, .cons a b => .cons (Rp.sub h a) (RpK.sub h b)
theorem RpT.sub (h : Sub F F') : ∀ {v : List (List Key × V)} {d : List (PyData × PyData)}, RpT K F v d → RpT K F' v d
  | _, _, .nil => .nil
  | _, _, .cons a b => .cons (Rp.sub h a) (RpT.sub h b)
end
theorem RpAll.length : ∀ {vs : List V} {ds : List PyData}, RpAll K F vs ds → vs.length = ds.length
  | _, _, .nil => rfl
  | _, _, .cons _ t => congrArg Nat.succ t.length
theorem RpAll.append : ∀ {vs ws : List V} {ds es : List PyData}, RpAll K F vs ds → RpAll K F ws es → RpAll K F (vs ++ ws) (ds ++ es)
  | _, _, _, _, .nil, s => s
  | _, _, _, _, .cons a t, s => .cons a (t.append s)
theorem RpAll.get : ∀ {vs : List V} {ds : List PyData} {i : Nat} {d : PyData}, RpAll K F vs ds → ds[i]? = some d → ∃ v, vs[i]? = some v ∧ Rp K F v d
  | _, _, _, _, .nil, e => by simp at e
  | _, _, 0, _, .cons r _, e => by simp at e; subst e; exact ⟨_, rfl, r⟩
  | _, _, i + 1, d, .cons _ t, e => by
    obtain ⟨v, h1, h2⟩ := RpAll.get (i := i) t (by simpa using e)
    exact ⟨v, by simpa using h1, h2⟩
theorem RpAll.get' : ∀ {vs : List V} {ds : List PyData} {i : Nat} {v : V}, RpAll K F vs ds → vs[i]? = some v → ∃ d, ds[i]? = some d ∧ Rp K F v d
  | _, _, _, _, .nil, e => by simp at e
  | _, _, 0, _, .cons r _, e => by simp at e; subst e; exact ⟨_, rfl, r⟩
  | _, _, i + 1, d, .cons _ t, e => by
    obtain ⟨v, h1, h2⟩ := RpAll.get' (i := i) t (by simpa using e)
    exact ⟨v, by simpa using h1, h2⟩
theorem RpAll.set {v : V} {d : PyData} (r : Rp K F v d) : ∀ {vs : List V} {ds : List PyData} (i : Nat), RpAll K F vs ds → RpAll K F (vs.set i v) (ds.set i d)
  | _, _, _, .nil => .nil
  | _, _, 0, .cons _ t => .cons r t
  | _, _, i + 1, .cons q t => .cons q (RpAll.set r i t)
theorem RpAll.take : ∀ {vs : List V} {ds : List PyData} (n : Nat), RpAll K F vs ds → RpAll K F (vs.take n) (ds.take n)
  | _, _, 0, _ => .nil
  | _, _, _ + 1, .nil => .nil
  | _, _, n + 1, .cons r t => .cons r (RpAll.take n t)
theorem RpAll.drop : ∀ {vs : List V} {ds : List PyData} (n : Nat), RpAll K F vs ds → RpAll K F (vs.drop n) (ds.drop n)
  | _, _, 0, r => r
  | _, _, _ + 1, .nil => .nil
  | _, _, n + 1, .cons _ t => RpAll.drop n t
theorem RpAll.flat {xs : List V} {ds : List PyData} (r : RpAll K F xs ds) : ∀ n : Nat, RpAll K F (List.replicate n xs).flatten (List.replicate n ds).flatten
  | 0 => .nil
  | n + 1 => by
    rw [List.replicate_succ, List.replicate_succ, List.flatten_cons, List.flatten_cons]
    exact r.append (r.flat n)
/-- forms -/
theorem Rp.int_of {v : V} {i : Int} (r : Rp K F v (.int i)) : v = .int i := by cases r; rfl
theorem Rp.bl_of {v : V} {i : Bool} (r : Rp K F v (.bool i)) : v = .bl i := by cases r; rfl
theorem Rp.str_of {v : V} {i : Str} (r : Rp K F v (.str i)) : v = .str i := by cases r; rfl
theorem Rp.non_of {v : V} (r : Rp K F v .none) : v = .non := by cases r; rfl
theorem Rp.lst_of {v : V} {ds : List PyData} (r : Rp K F v (.list ds)) : ∃ a xs, v = .ref a ∧ F a = some (.lst xs) ∧ RpAll K F xs ds := by cases r; exact ⟨_, _, rfl, by assumption, by assumption⟩
theorem Rp.tup_of {v : V} {ds : List PyData} (r : Rp K F v (.tuple ds)) : ∃ a xs, v = .ref a ∧ SqT K F a xs ∧ RpAll K F xs ds := by cases r; exact ⟨_, _, rfl, TpA.sq (by assumption), by assumption⟩
theorem Rp.tup_at {v : V} {ds : List PyData} (r : Rp K F v (.tuple ds)) : ∃ a xs, v = .ref a ∧ TpA K F a xs ∧ RpAll K F xs ds := by cases r; exact ⟨_, _, rfl, by assumption, by assumption⟩
theorem Rp.non_iff {v : V} {d : PyData} (r : Rp K F v d) : v = .non ↔ d = .none := by
  cases r <;> simp
mutual
theorem Rp.dp {H : Hp} (h : Sub F H) : ∀ {v : V} {d : PyData}, Rp K F v d → d.canLay0 = true → Dp K H v d
  | _, _, .non, _ => .non
  | _, _, .bl b, _ => .bl b
  | _, _, .int b, _ => .int b
  | _, _, .str b, _ => .str b
  | _, _, .lst a b, c => .lst (.inl (.inl (h _ _ a))) (RpAll.dp h b (by simpa [PyData.canLay0] using c))
  | _, _, .tup a b, c => .tup (sub_seqT h a.sq) (RpAll.dp h b (by simpa [PyData.canLay0] using c))
  | _, _, .dk a b, c => by simp [PyData.canLay0] at c
  | _, _, .dt a b, c => by simp [PyData.canLay0] at c
  | _, _, .ex a, c => by simp [PyData.canLay0] at c
  | _, _, .fn, c => by simp [PyData.canLay0] at c
  | _, _, .scr a b, c => by simp [PyData.canLay0] at c
  | _, _, .ctup a b, c => by simp [PyData.canLay0] at c
theorem RpAll.dp {H : Hp} (h : Sub F H) : ∀ {v : List V} {d : List PyData}, RpAll K F v d → PyData.canLayAll0 d = true → DpAll K H v d
  | _, _, .nil, _ => .nil
  | _, _, .cons a b, c => by
    rw [PyData.canLayAll0, Bool.and_eq_true] at c
    exact .cons (Rp.dp h a c.1) (RpAll.dp h b c.2)
end
end

/-! ### the abstract heap grows -/
abbrev NTup (o : Option HO) : Prop := o ≠ none ∧ ∀ xs, o ≠ some (.tup xs)
theorem NTup.lst {xs : List V} : NTup (some (.lst xs)) := ⟨by simp, fun _ e => by cases e⟩
theorem NTup.dK {xs : List (Key × V)} : NTup (some (.dK xs)) := ⟨by simp, fun _ e => by cases e⟩
structure Grow (F H F' H' : Hp) : Prop where
  f : Sub F F'
  h : Sub H H'
  fh : Sub F' H'
  fn : ∀ a, NTup (H a) → F' a = F a
section
variable {F H F1 H1 F2 H2 : Hp}
theorem Grow.refl (s : Sub F H) : Grow F H F H := ⟨fun _ _ e => e, fun _ _ e => e, s, fun _ _ => rfl⟩
theorem Grow.trans (a : Grow F H F1 H1) (b : Grow F1 H1 F2 H2) : Grow F H F2 H2 :=
  ⟨fun x o e => b.f x o (a.f x o e), fun x o e => b.h x o (a.h x o e), b.fh, fun x hx => by
    have h1 : NTup (H1 x) := by
      cases e : H x with
      | none => exact absurd e hx.1
      | some o => rw [a.h x o e, ← e]; exact hx
    rw [b.fn x h1, a.fn x hx]⟩
theorem sub_free {H H' : Hp} (s : Sub H H') {a : Addr} (e : H' a = none) : H a = none := by
  cases q : H a with
  | none => rfl
  | some o => rw [s a o q] at e; cases e
theorem sub_upd {H : Hp} {p : Addr} {o : HO} (n : H p = none) : Sub H (upd H p o) := fun b x e => by
  rw [upd_ne (ne_of_none e n)]
  exact e
theorem sub_upd2 {F H : Hp} {p : Addr} {o : HO} (s : Sub F H) : Sub (upd F p o) (upd H p o) := fun b x e => by
  by_cases h : b = p
  · subst h; rw [upd_same] at e ⊢; exact e
  · rw [upd_ne h] at e ⊢; exact s _ _ e
/-- a new frozen object -/
theorem Grow.new {p : Addr} {o : HO} (s : Sub F H) (n : H p = none) : Grow F H (upd F p o) (upd H p o) :=
  ⟨sub_upd (sub_free s n), sub_upd n, sub_upd2 s, fun a ha => upd_ne fun e => ha.1 (by rw [e, n])⟩
/-- a new object that is not frozen -/
theorem Grow.own {p : Addr} {o : HO} (s : Sub F H) (n : H p = none) : Grow F H F (upd H p o) :=
  ⟨fun _ _ e => e, sub_upd n, fun a x e => sub_upd n a x (s a x e), fun _ _ => rfl⟩
end

/-! ### the slots -/
inductive SV where
  /-- frozen data -/
  | sh (d : PyData)
  /-- a list or a dict that only this slot holds; what is in it is frozen -/
  | ow (d : PyData)
abbrev Rs := List (Nat × SV)
def Cell (K : PySem.W.Frag) (F H : Hp) (a : Addr) (d : PyData) : Prop := F a = none ∧
  ((∃ xs ds, H a = some (.lst xs) ∧ RpAll K F xs ds ∧ d = .list ds) ∨ (∃ kvs ds, H a = some (.dK kvs) ∧ RpK K F kvs ds ∧ d = .dict ((.bool false, .none) :: ds)) ∨ (∃ kvs ds, H a = some (.dT kvs) ∧ RpT K F kvs ds ∧ d = .dict ((.bool true, .none) :: ds)))
theorem Cell.grow {K : PySem.W.Frag} {F H F' H' : Hp} {a : Addr} {d : PyData} (g : Grow F H F' H') (c : Cell K F H a d) : Cell K F' H' a d := by
  obtain ⟨n, c⟩ := c
  have hn : NTup (H a) := by
    rcases c with ⟨_, _, e, _⟩ | ⟨_, _, e, _⟩ | ⟨_, _, e, _⟩ <;> exact ⟨by rw [e]; simp, fun _ => by rw [e]; simp⟩
  refine ⟨by rw [g.fn a hn]; exact n, ?_⟩
  rcases c with ⟨xs, ds, e, r, rfl⟩ | ⟨xs, ds, e, r, rfl⟩ | ⟨xs, ds, e, r, rfl⟩
  · exact .inl ⟨xs, ds, g.h _ _ e, r.sub g.f, rfl⟩
  · exact .inr (.inl ⟨xs, ds, g.h _ _ e, r.sub g.f, rfl⟩)
  · exact .inr (.inr ⟨xs, ds, g.h _ _ e, r.sub g.f, rfl⟩)
theorem Cell.there {K : PySem.W.Frag} {F H : Hp} {a : Addr} {d : PyData} (c : Cell K F H a d) : H a ≠ none := by
  obtain ⟨_, ⟨_, _, e, _⟩ | ⟨_, _, e, _⟩ | ⟨_, _, e, _⟩⟩ := c <;> rw [e] <;> simp

/-- n: how many slots; F0, H0: at the def's entry -/
structure Rho (K : PySem.W.Frag) (n : Nat) (F0 H0 F H : Hp) (σ : St) (ρ : Rs) : Prop where
  len : σ.length = n
  base : Grow F0 H0 F H
  sh : ∀ i d, (i, SV.sh d) ∈ ρ → ∃ v, σ[i]? = some (some v) ∧ Rp K F v d
  ow : ∀ i d, (i, SV.ow d) ∈ ρ → ∃ a, σ[i]? = some (some (.ref a)) ∧ Cell K F H a d ∧ H0 a = none
  inj : ∀ i j d e a, (i, SV.ow d) ∈ ρ → (j, SV.ow e) ∈ ρ → σ[i]? = some (some (.ref a)) → σ[j]? = some (some (.ref a)) → i = j
section
variable {K : PySem.W.Frag} {n : Nat} {F0 H0 F H F' H' : Hp} {σ : St} {ρ ρ' : Rs}
theorem Rho.grow (R : Rho K n F0 H0 F H σ ρ) (g : Grow F H F' H') : Rho K n F0 H0 F' H' σ ρ :=
  ⟨R.len, R.base.trans g, fun i d m => by
    obtain ⟨v, e, r⟩ := R.sh i d m
    exact ⟨v, e, r.sub g.f⟩, fun i d m => by
    obtain ⟨a, e, c, z⟩ := R.ow i d m
    exact ⟨a, e, c.grow g, z⟩, R.inj⟩
theorem Rho.weak (R : Rho K n F0 H0 F H σ ρ) (w : ∀ p ∈ ρ', p ∈ ρ) : Rho K n F0 H0 F H σ ρ' :=
  ⟨R.len, R.base, fun i d m => R.sh i d (w _ m), fun i d m => R.ow i d (w _ m), fun i j d e a m1 m2 => R.inj i j d e a (w _ m1) (w _ m2)⟩
theorem Rho.fh (R : Rho K n F0 H0 F H σ ρ) : Sub F H := R.base.fh
theorem set_self {σ : St} {i n : Nat} {x : Option V} (h : σ.length = n) (hi : i < n) : (σ.set i x)[i]? = some x := List.getElem?_set_self (by omega)
/-- a slot is set to frozen data -/
theorem Rho.set {i : Nat} {v : V} {d : PyData} (R : Rho K n F0 H0 F H σ ρ) (hi : i < n) (r : Rp K F v d) (w : ∀ p ∈ ρ', p = (i, SV.sh d) ∨ (p ∈ ρ ∧ p.1 ≠ i)) : Rho K n F0 H0 F H (σ.set i (some v)) ρ' := by
  have same : ∀ {j : Nat} {x : Option V}, j ≠ i → σ[j]? = some x → (σ.set i (some v))[j]? = some x := fun hj e => by
    rw [List.getElem?_set_ne (Ne.symm hj)]; exact e
  have back : ∀ {j : Nat} {x : Option V}, j ≠ i → (σ.set i (some v))[j]? = some x → σ[j]? = some x := fun hj e => by
    rw [List.getElem?_set_ne (Ne.symm hj)] at e; exact e
  have ow : ∀ j e, (j, SV.ow e) ∈ ρ' → (j, SV.ow e) ∈ ρ ∧ j ≠ i := fun j e m => by
    rcases w _ m with q | ⟨m', ne⟩
    · cases q
    · exact ⟨m', ne⟩
  refine ⟨by rw [List.length_set]; exact R.len, R.base, fun j e m => ?_, fun j e m => ?_, fun j k d e a m1 m2 e1 e2 => ?_⟩
  · rcases w _ m with q | ⟨m', ne⟩
    · cases q
      exact ⟨v, set_self R.len hi, r⟩
    · obtain ⟨u, e1, r1⟩ := R.sh j e m'
      exact ⟨u, same ne e1, r1⟩
  · obtain ⟨m', ne⟩ := ow j e m
    obtain ⟨a, e1, c⟩ := R.ow j e m'
    exact ⟨a, same ne e1, c⟩
  · obtain ⟨m1', n1⟩ := ow j d m1
    obtain ⟨m2', n2⟩ := ow k e m2
    exact R.inj j k d e a m1' m2' (back n1 e1) (back n2 e2)
/-- .. to an owned object that is new since the entry and in no other slot -/
theorem Rho.setO {i : Nat} {a : Addr} {d : PyData} (R : Rho K n F0 H0 F H σ ρ) (hi : i < n) (c : Cell K F H a d) (z : H0 a = none) (nw : ∀ j e, (j, SV.ow e) ∈ ρ → j ≠ i → σ[j]? ≠ some (some (.ref a)))
    (w : ∀ p ∈ ρ', p = (i, SV.ow d) ∨ (p ∈ ρ ∧ p.1 ≠ i)) : Rho K n F0 H0 F H (σ.set i (some (.ref a))) ρ' := by
  have same : ∀ {j : Nat} {x : Option V}, j ≠ i → σ[j]? = some x → (σ.set i (some (.ref a)))[j]? = some x := fun hj e => by
    rw [List.getElem?_set_ne (Ne.symm hj)]; exact e
  have back : ∀ {j : Nat} {x : Option V}, j ≠ i → (σ.set i (some (.ref a)))[j]? = some x → σ[j]? = some x := fun hj e => by
    rw [List.getElem?_set_ne (Ne.symm hj)] at e; exact e
  have self := set_self (x := some (.ref a)) R.len hi
  refine ⟨by rw [List.length_set]; exact R.len, R.base, fun j e m => ?_, fun j e m => ?_, fun j k d e b m1 m2 e1 e2 => ?_⟩
  · rcases w _ m with q | ⟨m', ne⟩
    · cases q
    · obtain ⟨u, e1, r1⟩ := R.sh j e m'
      exact ⟨u, same ne e1, r1⟩
  · rcases w _ m with q | ⟨m', ne⟩
    · cases q
      exact ⟨a, self, c, z⟩
    · obtain ⟨b, e1, c1⟩ := R.ow j e m'
      exact ⟨b, same ne e1, c1⟩
  · rcases w _ m1 with q1 | ⟨m1', n1⟩ <;> rcases w _ m2 with q2 | ⟨m2', n2⟩
    · cases q1; cases q2; rfl
    · cases q1
      rw [self] at e1; cases e1
      exact absurd (back n2 e2) (nw k e m2' n2)
    · cases q2
      rw [self] at e2; cases e2
      exact absurd (back n1 e1) (nw j d m1' n1)
    · exact R.inj j k d e b m1' m2' (back n1 e1) (back n2 e2)
/-- what slot i owns is changed -/
theorem Rho.mut {i : Nat} {a : Addr} {d d' : PyData} {o : HO} (R : Rho K n F0 H0 F H σ ρ) (m : (i, SV.ow d) ∈ ρ) (ea : σ[i]? = some (some (.ref a))) (c : Cell K F (upd H a o) a d')
    (w : ∀ p ∈ ρ', p = (i, SV.ow d') ∨ (p ∈ ρ ∧ p.1 ≠ i)) : Rho K n F0 H0 F (upd H a o) σ ρ' := by
  obtain ⟨a', ea', ca, z⟩ := R.ow i d m
  rw [ea] at ea'; cases ea'
  have fa : F a = none := ca.1
  refine ⟨R.len, ⟨R.base.f, fun b u e => ?_, fun b u e => ?_, R.base.fn⟩, fun j e mj => ?_, fun j e mj => ?_, fun j k d1 e b m1 m2 e1 e2 => ?_⟩
  · rw [upd_ne (ne_of_none e z)]; exact R.base.h b u e
  · rw [upd_ne (ne_of_none e fa)]; exact R.fh b u e
  · rcases w _ mj with q | ⟨m', ne⟩
    · cases q
    · exact R.sh j e m'
  · rcases w _ mj with q | ⟨m', ne⟩
    · cases q
      exact ⟨a, ea, c, z⟩
    · obtain ⟨b, e1, c1, z1⟩ := R.ow j e m'
      have hb : b ≠ a := fun q => ne (R.inj j i e d a m' m (by rw [← q]; exact e1) ea)
      refine ⟨b, e1, ⟨c1.1, ?_⟩, z1⟩
      rw [upd_ne hb]; exact c1.2
  · rcases w _ m1 with q1 | ⟨m1', n1⟩ <;> rcases w _ m2 with q2 | ⟨m2', n2⟩
    · cases q1; cases q2; rfl
    · cases q1; exact R.inj _ _ d e b m m2' e1 e2
    · cases q2; exact R.inj _ _ d1 d b m1' m e1 e2
    · exact R.inj _ _ d1 e b m1' m2' e1 e2
/-- what slot i owns is frozen -/
theorem Rho.freezeL {i : Nat} {a : Addr} {ds : List PyData} {xs : List V} (R : Rho K n F0 H0 F H σ ρ) (m : (i, SV.ow (.list ds)) ∈ ρ) (ea : σ[i]? = some (some (.ref a))) (ha : H a = some (.lst xs))
    (w : ∀ p ∈ ρ', p = (i, SV.sh (.list ds)) ∨ (p ∈ ρ ∧ p.1 ≠ i)) : Rho K n F0 H0 (upd F a (.lst xs)) H σ ρ' := by
  obtain ⟨a', ea', ca, z⟩ := R.ow i _ m
  rw [ea] at ea'; cases ea'
  have fa : F a = none := ca.1
  have rx : RpAll K F xs ds := by
    obtain ⟨_, ⟨_, _, e, r, q⟩ | ⟨_, _, e, _⟩ | ⟨_, _, e, _⟩⟩ := ca
    · rw [ha] at e; cases e; cases q; exact r
    · rw [ha] at e; cases e
    · rw [ha] at e; cases e
  have sf : Sub F (upd F a (.lst xs)) := sub_upd fa
  refine ⟨R.len, ⟨fun b u e => sf b u (R.base.f b u e), R.base.h, fun b u e => ?_, fun b hb => ?_⟩, fun j e mj => ?_, fun j e mj => ?_, fun j k d1 e b m1 m2 e1 e2 => ?_⟩
  · by_cases q : b = a
    · subst q; rw [upd_same] at e; cases e; exact ha
    · rw [upd_ne q] at e; exact R.fh b u e
  · rw [upd_ne (fun q => hb.1 (by rw [q]; exact z))]; exact R.base.fn b hb
  · rcases w _ mj with q | ⟨m', ne⟩
    · cases q
      exact ⟨.ref a, ea, .lst upd_same (rx.sub sf)⟩
    · obtain ⟨v, e1, r1⟩ := R.sh j e m'
      exact ⟨v, e1, r1.sub sf⟩
  · rcases w _ mj with q | ⟨m', ne⟩
    · cases q
    · obtain ⟨b, e1, c1, z1⟩ := R.ow j e m'
      have hb : b ≠ a := fun q => ne (R.inj j i e _ a m' m (by rw [← q]; exact e1) ea)
      refine ⟨b, e1, ⟨by rw [upd_ne hb]; exact c1.1, ?_⟩, z1⟩
      rcases c1.2 with ⟨x1, x2, x3, x4, x5⟩ | ⟨x1, x2, x3, x4, x5⟩ | ⟨x1, x2, x3, x4, x5⟩
      · exact .inl ⟨x1, x2, x3, x4.sub sf, x5⟩
      · exact .inr (.inl ⟨x1, x2, x3, x4.sub sf, x5⟩)
      · exact .inr (.inr ⟨x1, x2, x3, x4.sub sf, x5⟩)
  · have ow : ∀ j e, (j, SV.ow e) ∈ ρ' → (j, SV.ow e) ∈ ρ := fun j e mj => by
      rcases w _ mj with q | ⟨m', _⟩
      · cases q
      · exact m'
    exact R.inj j k d1 e b (ow _ _ m1) (ow _ _ m2) e1 e2
/-- .. a dict: the object is locked -/
theorem Rho.freezeD {i : Nat} {a : Addr} {d : PyData} {u : HO} (R : Rho K n F0 H0 F H σ ρ) (m : (i, SV.ow d) ∈ ρ) (ea : σ[i]? = some (some (.ref a)))
    (w : ∀ p ∈ ρ', p = (i, SV.sh d) ∨ (p ∈ ρ ∧ p.1 ≠ i)) (r : Rp K (upd F a u) (.ref a) d) (fa : F a = none) (z : H0 a = none) : Rho K n F0 H0 (upd F a u) (upd H a u) σ ρ' := by
  have sf : Sub F (upd F a u) := sub_upd fa
  refine ⟨R.len, ⟨fun b o e => sf b o (R.base.f b o e), fun b o e => ?_, sub_upd2 R.fh, fun b hb => ?_⟩, fun j e mj => ?_, fun j e mj => ?_, fun j k d1 e b m1 m2 e1 e2 => ?_⟩
  · rw [upd_ne (ne_of_none e z)]; exact R.base.h b o e
  · rw [upd_ne (fun q => hb.1 (by rw [q]; exact z))]; exact R.base.fn b hb
  · rcases w _ mj with q | ⟨m', ne⟩
    · cases q
      exact ⟨.ref a, ea, r⟩
    · obtain ⟨v, e1, r1⟩ := R.sh j e m'
      exact ⟨v, e1, r1.sub sf⟩
  · rcases w _ mj with q | ⟨m', ne⟩
    · cases q
    · obtain ⟨b, e1, c1, z1⟩ := R.ow j e m'
      have hb : b ≠ a := fun q => ne (R.inj j i e _ a m' m (by rw [← q]; exact e1) ea)
      refine ⟨b, e1, ⟨by rw [upd_ne hb]; exact c1.1, ?_⟩, z1⟩
      rw [upd_ne hb]
      rcases c1.2 with ⟨x1, x2, x3, x4, x5⟩ | ⟨x1, x2, x3, x4, x5⟩ | ⟨x1, x2, x3, x4, x5⟩
      · exact .inl ⟨x1, x2, x3, x4.sub sf, x5⟩
      · exact .inr (.inl ⟨x1, x2, x3, x4.sub sf, x5⟩)
      · exact .inr (.inr ⟨x1, x2, x3, x4.sub sf, x5⟩)
  · have ow : ∀ j e, (j, SV.ow e) ∈ ρ' → (j, SV.ow e) ∈ ρ := fun j e mj => by
      rcases w _ mj with q | ⟨m', _⟩
      · cases q
      · exact m'
    exact R.inj j k d1 e b (ow _ _ m1) (ow _ _ m2) e1 e2
end

/-! ### what is wanted behind a piece -/
def cv (K : PySem.W.Frag) (c : Str) : Value := .ref (He.ga K c)
def XdAt (H : Hp) (dx : Addr) (i : Int) : Prop := H dx = some (.xd [(("at" : Str), .int i)])
def PostV (K : PySem.W.Frag) (W : WX) (F H : Hp) (m : Res PyData) (Q : VK) : Prop := match m with
  | .ok d => ∀ v F' H', Grow F H F' H' → Rp K F' v d → Q v H'
  | .exc c i => ∀ dx F' H' σ', Grow F H F' H' → XdAt H' dx i → H dx = none → W (cv K c) (some dx) σ' H'
  | .stuck => False
def PostT (K : PySem.W.Frag) (W : WX) (F H : Hp) (m : Res Bool) (Q : Bool → Hp → Prop) : Prop := match m with
  | .ok b => ∀ F' H', Grow F H F' H' → Q b H'
  | .exc c i => ∀ dx F' H' σ', Grow F H F' H' → XdAt H' dx i → H dx = none → W (cv K c) (some dx) σ' H'
  | .stuck => False
def PostA (K : PySem.W.Frag) (W : WX) (F H : Hp) (m : Res (List PyData)) (Q : List V → Hp → Prop) : Prop := match m with
  | .ok ds => ∀ vs F' H', Grow F H F' H' → RpAll K F' vs ds → Q vs H'
  | .exc c i => ∀ dx F' H' σ', Grow F H F' H' → XdAt H' dx i → H dx = none → W (cv K c) (some dx) σ' H'
  | .stuck => False
/-- .. a list or dict that nobody else holds -/
def PostF (K : PySem.W.Frag) (W : WX) (F H : Hp) (m : Res PyData) (Q : VK) : Prop := match m with
  | .ok d => ∀ a F' H', Grow F H F' H' → H a = none → Cell K F' H' a d → Q (.ref a) H'
  | .exc c i => ∀ dx F' H' σ', Grow F H F' H' → XdAt H' dx i → H dx = none → W (cv K c) (some dx) σ' H'
  | .stuck => False
/-- .. a value that may be read: frozen, or what a slot owns -/
def RpH (K : PySem.W.Frag) (F H : Hp) (v : V) (d : PyData) : Prop := Rp K F v d ∨ ∃ a, v = .ref a ∧ Cell K F H a d
def PostW (K : PySem.W.Frag) (W : WX) (F H : Hp) (m : Res PyData) (Q : VK) : Prop := match m with
  | .ok d => ∀ v F' H', Grow F H F' H' → RpH K F' H' v d → Q v H'
  | .exc c i => ∀ dx F' H' σ', Grow F H F' H' → XdAt H' dx i → H dx = none → W (cv K c) (some dx) σ' H'
  | .stuck => False
theorem RpH.grow {K : PySem.W.Frag} {F H F1 H1 : Hp} {v : V} {d : PyData} (g : Grow F H F1 H1) (r : RpH K F H v d) : RpH K F1 H1 v d := by
  rcases r with r | ⟨a, e, c⟩
  · exact .inl (r.sub g.f)
  · exact .inr ⟨a, e, c.grow g⟩
section
variable {K : PySem.W.Frag} {W : WX} {F H F1 H1 : Hp} {α β : Type}
theorem excG {c : Str} {i : Int} {W : WX} (g : Grow F H F1 H1) (h : ∀ dx F' H' σ', Grow F H F' H' → XdAt H' dx i → H dx = none → W (cv K c) (some dx) σ' H') :
    ∀ dx F' H' σ', Grow F1 H1 F' H' → XdAt H' dx i → H1 dx = none → W (cv K c) (some dx) σ' H' :=
  fun dx F' H' σ' g' x n => h dx F' H' σ' (g.trans g') x (sub_free g.h n)
theorem PostV.grow {m : Res PyData} {Q : VK} (g : Grow F H F1 H1) (p : PostV K W F H m Q) : PostV K W F1 H1 m Q := by
  cases m with
  | ok d => exact fun v F' H' g' r => p v F' H' (g.trans g') r
  | exc c i => exact excG g p
  | stuck => exact p
theorem PostT.grow {m : Res Bool} {Q : Bool → Hp → Prop} (g : Grow F H F1 H1) (p : PostT K W F H m Q) : PostT K W F1 H1 m Q := by
  cases m with
  | ok d => exact fun F' H' g' => p F' H' (g.trans g')
  | exc c i => exact excG g p
  | stuck => exact p
theorem PostA.grow {m : Res (List PyData)} {Q : List V → Hp → Prop} (g : Grow F H F1 H1) (p : PostA K W F H m Q) : PostA K W F1 H1 m Q := by
  cases m with
  | ok d => exact fun v F' H' g' r => p v F' H' (g.trans g') r
  | exc c i => exact excG g p
  | stuck => exact p
theorem PostF.grow {m : Res PyData} {Q : VK} (g : Grow F H F1 H1) (p : PostF K W F H m Q) : PostF K W F1 H1 m Q := by
  cases m with
  | ok d => exact fun v F' H' g' n c => p v F' H' (g.trans g') (sub_free g.h n) c
  | exc c i => exact excG g p
  | stuck => exact p
/-- first a value, then what follows it -/
theorem PostV.bindG {m : Res α} [Enc α] {k : α → Res β} {P : Hp → Hp → Res β → Prop} {Q : VK} (p : P F H (m >>= k))
    (ex : ∀ c i, P F H (.exc c i) → ∀ dx F' H' σ', Grow F H F' H' → XdAt H' dx i → H dx = none → W (cv K c) (some dx) σ' H') (st : P F H .stuck → False)
    (go : ∀ x v F1 H1, m = .ok x → Grow F H F1 H1 → Rp K F1 v (toD x) → P F H (k x) → Q v H1) : PostV K W F H (m.map toD) Q := by
  cases m with
  | ok x => exact fun v F' H' g r => go x v F' H' rfl g r p
  | exc c i => exact ex c i p
  | stuck => exact st p
theorem PostT.bindG {m : Res Bool} {k : Bool → Res β} {P : Hp → Hp → Res β → Prop} {Q : Bool → Hp → Prop} (p : P F H (m >>= k))
    (ex : ∀ c i, P F H (.exc c i) → ∀ dx F' H' σ', Grow F H F' H' → XdAt H' dx i → H dx = none → W (cv K c) (some dx) σ' H') (st : P F H .stuck → False)
    (go : ∀ x F1 H1, m = .ok x → Grow F H F1 H1 → P F H (k x) → Q x H1) : PostT K W F H m Q := by
  cases m with
  | ok x => exact fun F' H' g => go x F' H' rfl g p
  | exc c i => exact ex c i p
  | stuck => exact st p
theorem PostV.bind {m : Res α} [Enc α] {k : α → Res PyData} {Q : VK} (p : PostV K W F H (m >>= k) Q) : PostV K W F H (m.map toD) (fun v H1 => ∃ F1 x, m = .ok x ∧ Grow F H F1 H1 ∧ Rp K F1 v (toD x) ∧ PostV K W F1 H1 (k x) Q) := by
  cases m with
  | ok x => exact fun v F' H' g r => ⟨F', x, rfl, g, r, PostV.grow g (m := k x) p⟩
  | exc c i => exact p
  | stuck => exact p
theorem PostV.bindT {m : Res Bool} {k : Bool → Res PyData} {Q : VK} (p : PostV K W F H (m >>= k) Q) : PostT K W F H m (fun b H1 => ∃ F1, Grow F H F1 H1 ∧ PostV K W F1 H1 (k b) Q) := by
  cases m with
  | ok x => exact fun F' H' g => ⟨F', g, PostV.grow g (m := k x) p⟩
  | exc c i => exact p
  | stuck => exact p
theorem PostT.bind {m : Res α} [Enc α] {k : α → Res Bool} {Q : Bool → Hp → Prop} (p : PostT K W F H (m >>= k) Q) : PostV K W F H (m.map toD) (fun v H1 => ∃ F1 x, m = .ok x ∧ Grow F H F1 H1 ∧ Rp K F1 v (toD x) ∧ PostT K W F1 H1 (k x) Q) := by
  cases m with
  | ok x => exact fun v F' H' g r => ⟨F', x, rfl, g, r, PostT.grow g (m := k x) p⟩
  | exc c i => exact p
  | stuck => exact p
theorem PostT.bindT {m : Res Bool} {k : Bool → Res Bool} {Q : Bool → Hp → Prop} (p : PostT K W F H (m >>= k) Q) : PostT K W F H m (fun b H1 => ∃ F1, Grow F H F1 H1 ∧ PostT K W F1 H1 (k b) Q) := by
  cases m with
  | ok x => exact fun F' H' g => ⟨F', g, PostT.grow g (m := k x) p⟩
  | exc c i => exact p
  | stuck => exact p
theorem PostA.bind {m : Res α} [Enc α] {k : α → Res (List PyData)} {Q : List V → Hp → Prop} (p : PostA K W F H (m >>= k) Q) : PostV K W F H (m.map toD) (fun v H1 => ∃ F1 x, m = .ok x ∧ Grow F H F1 H1 ∧ Rp K F1 v (toD x) ∧ PostA K W F1 H1 (k x) Q) := by
  cases m with
  | ok x => exact fun v F' H' g r => ⟨F', x, rfl, g, r, PostA.grow g (m := k x) p⟩
  | exc c i => exact p
  | stuck => exact p
theorem PostF.bind {m : Res α} [Enc α] {k : α → Res PyData} {Q : VK} (p : PostF K W F H (m >>= k) Q) : PostV K W F H (m.map toD) (fun v H1 => ∃ F1 x, m = .ok x ∧ Grow F H F1 H1 ∧ Rp K F1 v (toD x) ∧ PostF K W F1 H1 (k x) Q) := by
  cases m with
  | ok x => exact fun v F' H' g r => ⟨F', x, rfl, g, r, PostF.grow g (m := k x) p⟩
  | exc c i => exact p
  | stuck => exact p
theorem PostW.grow {m : Res PyData} {Q : VK} (g : Grow F H F1 H1) (p : PostW K W F H m Q) : PostW K W F1 H1 m Q := by
  cases m with
  | ok d => exact fun v F' H' g' r => p v F' H' (g.trans g') r
  | exc c i => exact excG g p
  | stuck => exact p
theorem PostV.bindW {m : Res α} [Enc α] {k : α → Res (PyData)} {Q : VK} (p : PostV K W F H (m >>= k) Q) : PostW K W F H (m.map toD) (fun v H1 => ∃ F1 x, m = .ok x ∧ Grow F H F1 H1 ∧ RpH K F1 H1 v (toD x) ∧ PostV K W F1 H1 (k x) Q) := by
  cases m with
  | ok x => exact fun v F' H' g r => ⟨F', x, rfl, g, r, PostV.grow g (m := k x) p⟩
  | exc c i => exact p
  | stuck => exact p
theorem PostT.bindW {m : Res α} [Enc α] {k : α → Res (Bool)} {Q : Bool → Hp → Prop} (p : PostT K W F H (m >>= k) Q) : PostW K W F H (m.map toD) (fun v H1 => ∃ F1 x, m = .ok x ∧ Grow F H F1 H1 ∧ RpH K F1 H1 v (toD x) ∧ PostT K W F1 H1 (k x) Q) := by
  cases m with
  | ok x => exact fun v F' H' g r => ⟨F', x, rfl, g, r, PostT.grow g (m := k x) p⟩
  | exc c i => exact p
  | stuck => exact p
theorem PostA.bindW {m : Res α} [Enc α] {k : α → Res (List PyData)} {Q : List V → Hp → Prop} (p : PostA K W F H (m >>= k) Q) : PostW K W F H (m.map toD) (fun v H1 => ∃ F1 x, m = .ok x ∧ Grow F H F1 H1 ∧ RpH K F1 H1 v (toD x) ∧ PostA K W F1 H1 (k x) Q) := by
  cases m with
  | ok x => exact fun v F' H' g r => ⟨F', x, rfl, g, r, PostA.grow g (m := k x) p⟩
  | exc c i => exact p
  | stuck => exact p
theorem PostF.bindW {m : Res α} [Enc α] {k : α → Res (PyData)} {Q : VK} (p : PostF K W F H (m >>= k) Q) : PostW K W F H (m.map toD) (fun v H1 => ∃ F1 x, m = .ok x ∧ Grow F H F1 H1 ∧ RpH K F1 H1 v (toD x) ∧ PostF K W F1 H1 (k x) Q) := by
  cases m with
  | ok x => exact fun v F' H' g r => ⟨F', x, rfl, g, r, PostF.grow g (m := k x) p⟩
  | exc c i => exact p
  | stuck => exact p
theorem PostW.bindW {m : Res α} [Enc α] {k : α → Res (PyData)} {Q : VK} (p : PostW K W F H (m >>= k) Q) : PostW K W F H (m.map toD) (fun v H1 => ∃ F1 x, m = .ok x ∧ Grow F H F1 H1 ∧ RpH K F1 H1 v (toD x) ∧ PostW K W F1 H1 (k x) Q) := by
  cases m with
  | ok x => exact fun v F' H' g r => ⟨F', x, rfl, g, r, PostW.grow g (m := k x) p⟩
  | exc c i => exact p
  | stuck => exact p
theorem PostW.bind {m : Res α} [Enc α] {k : α → Res (PyData)} {Q : VK} (p : PostW K W F H (m >>= k) Q) : PostV K W F H (m.map toD) (fun v H1 => ∃ F1 x, m = .ok x ∧ Grow F H F1 H1 ∧ Rp K F1 v (toD x) ∧ PostW K W F1 H1 (k x) Q) := by
  cases m with
  | ok x => exact fun v F' H' g r => ⟨F', x, rfl, g, r, PostW.grow g (m := k x) p⟩
  | exc c i => exact p
  | stuck => exact p
theorem PostV.bindA {m : Res (List PyData)} {k : List PyData → Res PyData} {Q : VK} (p : PostV K W F H (m >>= k) Q) : PostA K W F H m (fun vs H1 => ∃ F1 ds, m = .ok ds ∧ Grow F H F1 H1 ∧ RpAll K F1 vs ds ∧ PostV K W F1 H1 (k ds) Q) := by
  cases m with
  | ok x => exact fun v F' H' g r => ⟨F', x, rfl, g, r, PostV.grow g (m := k x) p⟩
  | exc c i => exact p
  | stuck => exact p
theorem PostF.bindA {m : Res (List PyData)} {k : List PyData → Res PyData} {Q : VK} (p : PostF K W F H (m >>= k) Q) : PostA K W F H m (fun vs H1 => ∃ F1 ds, m = .ok ds ∧ Grow F H F1 H1 ∧ RpAll K F1 vs ds ∧ PostF K W F1 H1 (k ds) Q) := by
  cases m with
  | ok x => exact fun v F' H' g r => ⟨F', x, rfl, g, r, PostF.grow g (m := k x) p⟩
  | exc c i => exact p
  | stuck => exact p
end

/-- how a block ends -/
inductive Fi where
  | nx (ρ : Rs)
  | rt (d : PyData)
  | bk (ρ : Rs)
def PostS (K : PySem.W.Frag) (n : Nat) (W : WX) {τ : Type} (F0 H0 F : Hp) (m : Res τ) (fin : τ → Fi) (D : Ends) : Prop := match m with
  | .ok t => (match fin t with
    | .nx ρ' => ∀ σ' F' H', Rho K n F0 H0 F' H' σ' ρ' → Sub F F' → D.nx σ' H'
    | .rt d => ∀ v F' H', Grow F0 H0 F' H' → Rp K F' v d → D.rt v H'
    | .bk ρ' => ∀ σ' F' H', Rho K n F0 H0 F' H' σ' ρ' → Sub F F' → D.bk σ' H')
  | .exc c i => ∀ dx F' H' σ', Grow F0 H0 F' H' → XdAt H' dx i → H0 dx = none → W (cv K c) (some dx) σ' H'
  | .stuck => False
section
variable {K : PySem.W.Frag} {n : Nat} {W : WX} {F0 H0 F H F1 H1 : Hp} {σ : St} {ρ : Rs} {α τ : Type} {fin : τ → Fi} {D : Ends}
theorem Sub.trans {F F1 F2 : Hp} (a : Sub F F1) (b : Sub F1 F2) : Sub F F2 := fun x o e => b x o (a x o e)
theorem PostS.sub {m : Res τ} (s : Sub F F1) (p : PostS K n W F0 H0 F m fin D) : PostS K n W F0 H0 F1 m fin D := by
  cases m with
  | ok t =>
    have p' : (match fin t with
      | .nx ρ' => ∀ σ' F' H', Rho K n F0 H0 F' H' σ' ρ' → Sub F F' → D.nx σ' H'
      | .rt d => ∀ v F' H', Grow F0 H0 F' H' → Rp K F' v d → D.rt v H'
      | .bk ρ' => ∀ σ' F' H', Rho K n F0 H0 F' H' σ' ρ' → Sub F F' → D.bk σ' H') := p
    show (match fin t with
      | .nx ρ' => ∀ σ' F' H', Rho K n F0 H0 F' H' σ' ρ' → Sub F1 F' → D.nx σ' H'
      | .rt d => ∀ v F' H', Grow F0 H0 F' H' → Rp K F' v d → D.rt v H'
      | .bk ρ' => ∀ σ' F' H', Rho K n F0 H0 F' H' σ' ρ' → Sub F1 F' → D.bk σ' H')
    cases e : fin t with
    | nx ρ' => rw [e] at p'; exact fun σ' F' H' r q => p' σ' F' H' r (s.trans q)
    | rt d => rw [e] at p'; exact p'
    | bk ρ' => rw [e] at p'; exact fun σ' F' H' r q => p' σ' F' H' r (s.trans q)
  | exc c i => exact p
  | stuck => exact p
theorem PostS.bind {m : Res α} [Enc α] {k : α → Res τ} (R : Rho K n F0 H0 F H σ ρ) (p : PostS K n W F0 H0 F (m >>= k) fin D) :
    PostV K W F H (m.map toD) (fun v H1 => ∃ F1 x, m = .ok x ∧ Grow F H F1 H1 ∧ Rp K F1 v (toD x) ∧ PostS K n W F0 H0 F1 (k x) fin D) := by
  cases m with
  | ok x => exact fun v F' H' g r => ⟨F', x, rfl, g, r, PostS.sub (m := k x) g.f p⟩
  | exc c i => exact excG R.base p
  | stuck => exact p
theorem PostS.bindW {m : Res α} [Enc α] {k : α → Res τ} (R : Rho K n F0 H0 F H σ ρ) (p : PostS K n W F0 H0 F (m >>= k) fin D) :
    PostW K W F H (m.map toD) (fun v H1 => ∃ F1 x, m = .ok x ∧ Grow F H F1 H1 ∧ RpH K F1 H1 v (toD x) ∧ PostS K n W F0 H0 F1 (k x) fin D) := by
  cases m with
  | ok x => exact fun v F' H' g r => ⟨F', x, rfl, g, r, PostS.sub (m := k x) g.f p⟩
  | exc c i => exact excG R.base p
  | stuck => exact p
theorem PostS.bindF {m : Res α} [Enc α] {k : α → Res τ} (R : Rho K n F0 H0 F H σ ρ) (p : PostS K n W F0 H0 F (m >>= k) fin D) :
    PostF K W F H (m.map toD) (fun v H1 => ∃ F1 x a, v = .ref a ∧ m = .ok x ∧ Grow F H F1 H1 ∧ H a = none ∧ Cell K F1 H1 a (toD x) ∧ PostS K n W F0 H0 F1 (k x) fin D) := by
  cases m with
  | ok x => exact fun a F' H' g z c => ⟨F', x, a, rfl, rfl, g, z, c, PostS.sub (m := k x) g.f p⟩
  | exc c i => exact excG R.base p
  | stuck => exact p
theorem PostS.bindT {m : Res Bool} {k : Bool → Res τ} (R : Rho K n F0 H0 F H σ ρ) (p : PostS K n W F0 H0 F (m >>= k) fin D) :
    PostT K W F H m (fun b H1 => ∃ F1, m = .ok b ∧ Grow F H F1 H1 ∧ PostS K n W F0 H0 F1 (k b) fin D) := by
  cases m with
  | ok x => exact fun F' H' g => ⟨F', rfl, g, PostS.sub (m := k x) g.f p⟩
  | exc c i => exact excG R.base p
  | stuck => exact p
end

/-! ### the judgements -/
def rdV (K : PySem.W.Frag) (n : Nat) (W : WX) (ρ : Rs) (m : Res PyData) : TE := fun σ H Q => ∃ F0 H0 F, Rho K n F0 H0 F H σ ρ ∧ PostV K W F H m Q
def rdF (K : PySem.W.Frag) (n : Nat) (W : WX) (ρ : Rs) (m : Res PyData) : TE := fun σ H Q => ∃ F0 H0 F, Rho K n F0 H0 F H σ ρ ∧ PostF K W F H m Q
def rdT (K : PySem.W.Frag) (n : Nat) (W : WX) (ρ : Rs) (m : Res Bool) : TT := fun σ H Q => ∃ F0 H0 F, Rho K n F0 H0 F H σ ρ ∧ PostT K W F H m Q
def rdA (K : PySem.W.Frag) (n : Nat) (W : WX) (ρ : Rs) (m : Res (List PyData)) : TA := fun σ H Q => ∃ F0 H0 F, Rho K n F0 H0 F H σ ρ ∧ PostA K W F H m Q
def rdS (K : PySem.W.Frag) (n : Nat) (W : WX) {τ : Type} (ρ : Rs) (m : Res τ) (fin : τ → Fi) : TS := fun D σ H => ∃ F0 H0 F, Rho K n F0 H0 F H σ ρ ∧ PostS K n W F0 H0 F m fin D
abbrev XV (X : Cx) (W : WX) (ρ : Rs) {α : Type} [Enc α] (e : Expr) (m : Res α) : Prop := PE X e (rdV X.K X.N.length W ρ (m.map toD))
def rdW (K : PySem.W.Frag) (n : Nat) (W : WX) (ρ : Rs) (m : Res PyData) : TE := fun σ H Q => ∃ F0 H0 F, Rho K n F0 H0 F H σ ρ ∧ PostW K W F H m Q
abbrev XW (X : Cx) (W : WX) (ρ : Rs) {α : Type} [Enc α] (e : Expr) (m : Res α) : Prop := PE X e (rdW X.K X.N.length W ρ (m.map toD))
abbrev XF (X : Cx) (W : WX) (ρ : Rs) {α : Type} [Enc α] (e : Expr) (m : Res α) : Prop := PE X e (rdF X.K X.N.length W ρ (m.map toD))
abbrev XT (X : Cx) (W : WX) (ρ : Rs) (e : Expr) (m : Res Bool) : Prop := PT X e (rdT X.K X.N.length W ρ m)
abbrev XA (X : Cx) (W : WX) (ρ : Rs) (es : List Expr) (m : Res (List PyData)) : Prop := PA X es (rdA X.K X.N.length W ρ m)
abbrev XB (X : Cx) (W : WX) (ρ : Rs) {τ : Type} (sts : List Stmt) (m : Res τ) (fin : τ → Fi) : Prop := PSs X sts (rdS X.K X.N.length W ρ m fin)
section
variable {X : Cx}
theorem PE.imp {e : Expr} {t t' : TE} (h : PE X e t) (hi : ∀ σ H Q, t' σ H Q → t σ H Q) : PE X e t' := ⟨fun pins s σ H Q I q => h.run pins s σ H Q I (hi σ H Q q)⟩
theorem PT.imp {e : Expr} {t t' : TT} (h : PT X e t) (hi : ∀ σ H Q, t' σ H Q → t σ H Q) : PT X e t' := ⟨fun pins s σ H Q I q => h.run pins s σ H Q I (hi σ H Q q)⟩
theorem PW.imp {e : Expr} {t t' : TT} (h : PW X e t) (hi : ∀ σ H Q, t' σ H Q → t σ H Q) : PW X e t' := ⟨fun wh pins s σ H Q I q => h.run wh pins s σ H Q I (hi σ H Q q)⟩
theorem PA.imp {es : List Expr} {t t' : TA} (h : PA X es t) (hi : ∀ σ H Q, t' σ H Q → t σ H Q) : PA X es t' := ⟨fun pos pins s σ H Q I q => h.run pos pins s σ H Q I (hi σ H Q q)⟩
theorem PS.imp {st : Stmt} {t t' : TS} (h : PS X st t) (hi : ∀ D σ H, t' D σ H → t D σ H) : PS X st t' := ⟨fun pins s σ H D I q => h.run pins s σ H D I (hi D σ H q)⟩
theorem PSs.imp {sts : List Stmt} {t t' : TS} (h : PSs X sts t) (hi : ∀ D σ H, t' D σ H → t D σ H) : PSs X sts t' := ⟨fun pins s σ H D I q => h.run pins s σ H D I (hi D σ H q)⟩
theorem PE.ex {ι : Type} {e : Expr} {t : ι → TE} (h : ∀ i, PE X e (t i)) : PE X e (fun σ H Q => ∃ i, t i σ H Q) := ⟨fun pins s σ H Q I ⟨i, q⟩ => (h i).run pins s σ H Q I q⟩
theorem PT.ex {ι : Type} {e : Expr} {t : ι → TT} (h : ∀ i, PT X e (t i)) : PT X e (fun σ H Q => ∃ i, t i σ H Q) := ⟨fun pins s σ H Q I ⟨i, q⟩ => (h i).run pins s σ H Q I q⟩
theorem PSs.ex {ι : Type} {sts : List Stmt} {t : ι → TS} (h : ∀ i, PSs X sts (t i)) : PSs X sts (fun D σ H => ∃ i, t i D σ H) := ⟨fun pins s σ H D I ⟨i, q⟩ => (h i).run pins s σ H D I q⟩
theorem XB.weak {W : WX} {ρ ρ' : Rs} {τ : Type} {sts : List Stmt} {m : Res τ} {fin : τ → Fi} (h : XB X W ρ' sts m fin) (w : ∀ p ∈ ρ', p ∈ ρ) : XB X W ρ sts m fin :=
  PSs.imp h fun D σ H ⟨F0, H0, F, R, p⟩ => ⟨F0, H0, F, R.weak w, p⟩
end
end Vs
end
section
set_option Elab.async false
set_option linter.all false
set_option maxRecDepth 100000
set_option maxHeartbeats 1000000
/-! Vs2: rules for expressions. -/
namespace Vs
open Enc (toD)
open PySem PySem.Spec PyProof.Rows L2

/-! ### data that can be compared -/
class PyEq (α : Type) [Enc α] [DecidableEq α] where
  dp : Nat
  eqv : ∀ a b : α, PyData.eqv (toD a) (toD b) = decide (a = b)
  lay : ∀ a : α, (toD a).canLay0 = true
  dep : ∀ a : α, (toD a).depth ≤ dp
class NN (α : Type) [Enc α] : Prop where
  nn : ∀ a : α, toD a ≠ .none
section
variable {α β γ δ ε : Type} [Enc α] [Enc β] [Enc γ] [Enc δ] [Enc ε] [DecidableEq α] [DecidableEq β] [DecidableEq γ] [DecidableEq δ] [DecidableEq ε]
theorem beq_dec {α : Type} [BEq α] [LawfulBEq α] [DecidableEq α] (a b : α) : (a == b) = decide (a = b) := by
  by_cases h : a = b
  · subst h; simp
  · rw [decide_eq_false h]; exact beq_eq_false_iff_ne.mpr h
instance : PyEq Int := ⟨0, fun a b => by show PyData.eqv (.int a) (.int b) = _; rw [PyData.eqv]; exact beq_dec a b, fun a => by show PyData.canLay0 (.int a) = true; rw [PyData.canLay0], fun a => by show PyData.depth (.int a) ≤ 0; rw [PyData.depth]; exact Nat.le_refl _⟩
instance : PyEq Bool := ⟨0, fun a b => by show PyData.eqv (.bool a) (.bool b) = _; rw [PyData.eqv]; exact beq_dec a b, fun a => by show PyData.canLay0 (.bool a) = true; rw [PyData.canLay0], fun a => by show PyData.depth (.bool a) ≤ 0; rw [PyData.depth]; exact Nat.le_refl _⟩
instance : PyEq Unit := ⟨0, fun a b => by show PyData.eqv .none .none = _; rw [PyData.eqv]; simp, fun a => by show PyData.canLay0 .none = true; rw [PyData.canLay0], fun a => by show PyData.depth .none ≤ 0; rw [PyData.depth]; exact Nat.le_refl _⟩
instance : PyEq PStr := ⟨0, fun a b => by
    show PyData.eqv (.str a.1) (.str b.1) = _
    rw [PyData.eqv, beq_dec]
    by_cases h : a = b
    · subst h; simp
    · rw [decide_eq_false h, decide_eq_false fun e => h (Subtype.ext e)], fun a => by
    show PyData.canLay0 (.str a.1) = true
    rw [PyData.canLay0]
    exact a.2, fun a => by show PyData.depth (.str a.1) ≤ 0; rw [PyData.depth]; exact Nat.le_refl _⟩
theorem eqvAll_map [PyEq α] : ∀ xs ys : List α, PyData.eqvAll (xs.map toD) (ys.map toD) = decide (xs = ys)
  | [], [] => by simp [PyData.eqvAll]
  | [], y :: ys => by simp [PyData.eqvAll]
  | x :: xs, [] => by simp [PyData.eqvAll]
  | x :: xs, y :: ys => by
    rw [List.map_cons, List.map_cons, PyData.eqvAll, PyEq.eqv, eqvAll_map xs ys]
    by_cases h : x = y <;> by_cases h2 : xs = ys <;> simp [h, h2]
theorem layAll_map [PyEq α] : ∀ xs : List α, PyData.canLayAll0 (xs.map toD) = true
  | [] => by simp [PyData.canLayAll0]
  | x :: xs => by rw [List.map_cons, PyData.canLayAll0, PyEq.lay, layAll_map xs]; rfl
theorem depAll_map [PyEq α] : ∀ xs : List α, PyData.depthAll (xs.map toD) ≤ PyEq.dp α
  | [] => by simp [PyData.depthAll]
  | x :: xs => by
    rw [List.map_cons, PyData.depthAll]
    exact Nat.max_le.mpr ⟨PyEq.dep x, depAll_map xs⟩
instance [PyEq α] : PyEq (List α) := ⟨PyEq.dp α + 1, fun a b => by
    show PyData.eqv (.list (a.map toD)) (.list (b.map toD)) = _
    rw [PyData.eqv, eqvAll_map], fun a => by
    show PyData.canLay0 (.list (a.map toD)) = true
    rw [PyData.canLay0, layAll_map], fun a => by
    show PyData.depth (.list (a.map toD)) ≤ _
    rw [PyData.depth]
    exact Nat.succ_le_succ (depAll_map a)⟩
instance [PyEq α] : PyEq (Tup α) := ⟨PyEq.dp α + 1, fun a b => by
    show PyData.eqv (.tuple (a.l.map toD)) (.tuple (b.l.map toD)) = _
    rw [PyData.eqv, eqvAll_map]
    cases a; cases b; simp, fun a => by
    show PyData.canLay0 (.tuple (a.l.map toD)) = true
    rw [PyData.canLay0, layAll_map], fun a => by
    show PyData.depth (.tuple (a.l.map toD)) ≤ _
    rw [PyData.depth]
    exact Nat.succ_le_succ (depAll_map a.l)⟩
instance [PyEq α] [PyEq β] : PyEq (α × β) := ⟨max (PyEq.dp α) (PyEq.dp β) + 1, fun a b => by
    show PyData.eqv (.tuple [toD a.1, toD a.2]) (.tuple [toD b.1, toD b.2]) = _
    simp only [PyData.eqv, PyData.eqvAll, PyEq.eqv, Bool.and_true]
    obtain ⟨a1, a2⟩ := a
    obtain ⟨b1, b2⟩ := b
    simp only [Prod.mk.injEq, Bool.decide_and], fun a => by
    show PyData.canLay0 (.tuple [toD a.1, toD a.2]) = true
    simp only [PyData.canLay0, PyData.canLayAll0, PyEq.lay, Bool.and_true], fun a => by
    show PyData.depth (.tuple [toD a.1, toD a.2]) ≤ _
    simp only [PyData.depth, PyData.depthAll]
    have h1 := PyEq.dep a.1
    have h2 := PyEq.dep a.2
    omega⟩
instance [PyEq α] [PyEq β] [PyEq γ] : PyEq (T3 α β γ) := ⟨max (PyEq.dp α) (max (PyEq.dp β) (PyEq.dp γ)) + 1, fun a b => by
    show PyData.eqv (.tuple [toD a.a, toD a.b, toD a.c]) (.tuple [toD b.a, toD b.b, toD b.c]) = _
    simp only [PyData.eqv, PyData.eqvAll, PyEq.eqv, Bool.and_true]
    obtain ⟨a1, a2, a3⟩ := a
    obtain ⟨b1, b2, b3⟩ := b
    simp only [T3.mk.injEq, Bool.decide_and], fun a => by
    show PyData.canLay0 (.tuple [toD a.a, toD a.b, toD a.c]) = true
    simp only [PyData.canLay0, PyData.canLayAll0, PyEq.lay, Bool.and_true], fun a => by
    show PyData.depth (.tuple [toD a.a, toD a.b, toD a.c]) ≤ _
    simp only [PyData.depth, PyData.depthAll]
    have h1 := PyEq.dep a.a
    have h2 := PyEq.dep a.b
    have h3 := PyEq.dep a.c
    omega⟩
instance [PyEq α] [PyEq β] [PyEq γ] [PyEq δ] : PyEq (T4 α β γ δ) := ⟨max (PyEq.dp α) (max (PyEq.dp β) (max (PyEq.dp γ) (PyEq.dp δ))) + 1, fun a b => by
    show PyData.eqv (.tuple [toD a.a, toD a.b, toD a.c, toD a.d]) (.tuple [toD b.a, toD b.b, toD b.c, toD b.d]) = _
    simp only [PyData.eqv, PyData.eqvAll, PyEq.eqv, Bool.and_true]
    obtain ⟨a1, a2, a3, a4⟩ := a
    obtain ⟨b1, b2, b3, b4⟩ := b
    simp only [T4.mk.injEq, Bool.decide_and], fun a => by
    show PyData.canLay0 (.tuple [toD a.a, toD a.b, toD a.c, toD a.d]) = true
    simp only [PyData.canLay0, PyData.canLayAll0, PyEq.lay, Bool.and_true], fun a => by
    show PyData.depth (.tuple [toD a.a, toD a.b, toD a.c, toD a.d]) ≤ _
    simp only [PyData.depth, PyData.depthAll]
    have h1 := PyEq.dep a.a
    have h2 := PyEq.dep a.b
    have h3 := PyEq.dep a.c
    have h4 := PyEq.dep a.d
    omega⟩
instance : NN Int := ⟨fun a h => by cases h⟩
instance : NN Bool := ⟨fun a h => by cases h⟩
instance : NN PStr := ⟨fun a h => by cases h⟩
instance {α : Type} [Enc α] : NN (List α) := ⟨fun a h => by cases h⟩
instance {α : Type} [Enc α] : NN (Tup α) := ⟨fun a h => by cases h⟩
instance {α β : Type} [Enc α] [Enc β] : NN (α × β) := ⟨fun a h => by cases h⟩
instance {α β γ : Type} [Enc α] [Enc β] [Enc γ] : NN (T3 α β γ) := ⟨fun a h => by cases h⟩
instance {α β γ δ : Type} [Enc α] [Enc β] [Enc γ] [Enc δ] : NN (T4 α β γ δ) := ⟨fun a h => by cases h⟩
instance {α β γ δ ε : Type} [Enc α] [Enc β] [Enc γ] [Enc δ] [Enc ε] : NN (T5 α β γ δ ε) := ⟨fun a h => by cases h⟩
theorem eqv_none_l {d : PyData} (h : d ≠ .none) : PyData.eqv .none d = false := by
  cases d <;> first | exact absurd rfl h | simp [PyData.eqv]
theorem eqv_none_r {d : PyData} (h : d ≠ .none) : PyData.eqv d .none = false := by
  cases d <;> first | exact absurd rfl h | simp [PyData.eqv]
instance [PyEq α] [NN α] : PyEq (Option α) := ⟨PyEq.dp α, fun a b => by
    cases a with
    | none => cases b with
      | none => show PyData.eqv .none .none = _; simp [PyData.eqv]
      | some b => show PyData.eqv .none (toD b) = _; rw [eqv_none_l (NN.nn b)]; simp
    | some a => cases b with
      | none => show PyData.eqv (toD a) .none = _; rw [eqv_none_r (NN.nn a)]; simp
      | some b => show PyData.eqv (toD a) (toD b) = _; rw [PyEq.eqv]; simp, fun a => by
    cases a with
    | none => show PyData.canLay0 .none = true; rw [PyData.canLay0]
    | some a => exact PyEq.lay a, fun a => by
    cases a with
    | none => show PyData.depth .none ≤ _; rw [PyData.depth]; exact Nat.zero_le _
    | some a => exact PyEq.dep a⟩
end

/-! ### names and constants -/
section
variable {X : Cx} {W : WX} {ρ : Rs} {pos : Pos} {α β γ δ : Type} [Enc α] [Enc β] [Enc γ] [Enc δ]
theorem XV.w {e : Expr} {m : Res α} (h : XV X W ρ e m) : XW X W ρ e m := PE.imp h fun σ H Q ⟨F0, H0, F, R, p⟩ => ⟨F0, H0, F, R, by
  cases m with
  | ok d => exact fun v F' H' g r => p v F' H' g (.inl r)
  | exc c i => exact p
  | stuck => exact p⟩
/-- the k-th of the known slots -/
theorem XV.var (k : Nat) {i : Nat} {x : α} {nm : Str} (h : ρ[k]? = some (i, SV.sh (toD x))) (hN : X.N[i]? = some nm := by rfl) (hv : Vis X.env.scope nm := by first | exact Or.inl rfl | exact Or.inr (Or.inl rfl) | exact Or.inr (Or.inr rfl))
    (hd : (nm == ("__debug__" : Str)) = false := by decide) (hcd : (nm == ("__classdict__" : Str)) = false := by decide) : XV X W ρ (.Name nm pos) (.ok x) := by
  refine PE.imp (pe_var hN hv hd hcd) fun σ H Q ⟨F0, H0, F, R, p⟩ => ?_
  obtain ⟨v, e, r⟩ := R.sh i _ (List.mem_of_getElem? h)
  exact ⟨v, e, p v F H (.refl R.fh) r⟩
theorem XW.own (k : Nat) {i : Nat} {x : α} {nm : Str} (h : ρ[k]? = some (i, SV.ow (toD x))) (hN : X.N[i]? = some nm := by rfl) (hv : Vis X.env.scope nm := by first | exact Or.inl rfl | exact Or.inr (Or.inl rfl) | exact Or.inr (Or.inr rfl))
    (hd : (nm == ("__debug__" : Str)) = false := by decide) (hcd : (nm == ("__classdict__" : Str)) = false := by decide) : XW X W ρ (.Name nm pos) (.ok x) := by
  refine PE.imp (pe_var hN hv hd hcd) fun σ H Q ⟨F0, H0, F, R, p⟩ => ?_
  obtain ⟨a, e, c, _⟩ := R.ow i _ (List.mem_of_getElem? h)
  exact ⟨.ref a, e, p _ F H (.refl R.fh) (.inr ⟨a, rfl, c⟩)⟩
theorem XV.int {i : Int} {j : Nat} : XV X W ρ (.Constant (.int i) j pos) (.ok i) := PE.imp pe_int fun σ H Q ⟨F0, H0, F, R, p⟩ => p _ F H (.refl R.fh) (.int i)
theorem XV.bool {b : Bool} {j : Nat} : XV X W ρ (.Constant (.bool b) j pos) (.ok b) := PE.imp pe_bl fun σ H Q ⟨F0, H0, F, R, p⟩ => p _ F H (.refl R.fh) (.bl b)
theorem XV.noneC {j : Nat} : XV X W ρ (.Constant .none j pos) (.ok (none : Option α)) := PE.imp pe_non fun σ H Q ⟨F0, H0, F, R, p⟩ => p _ F H (.refl R.fh) .non
theorem XV.unit {j : Nat} : XV X W ρ (.Constant .none j pos) (.ok ()) := PE.imp pe_non fun σ H Q ⟨F0, H0, F, R, p⟩ => p _ F H (.refl R.fh) .non
theorem XV.str {x : PStr} {j : Nat} : XV X W ρ (.Constant (.str x.1) j pos) (.ok x) := PE.imp pe_str fun σ H Q ⟨F0, H0, F, R, p⟩ => p _ F H (.refl R.fh) (.str x.1)
/-- a constant of the module -/
theorem XV.glob {x : Str} {v : V} {u : Value} {a : α} (hg : Gl X x) (hm : X.mg x = some u) (r : RelV v u) (hr : ∀ F, Rp X.K F v (toD a)) (hd : (x == ("__debug__" : Str)) = false := by decide) : XV X W ρ (.Name x pos) (.ok a) :=
  PE.imp (pe_glob hg hm r hd) fun σ H Q ⟨F0, H0, F, R, p⟩ => p _ F H (.refl R.fh) (hr F)
/-- a value where None may be as well -/
theorem XV.someC {e : Expr} {m : Res α} (h : XV X W ρ e m) : XV X W ρ e (m >>= fun x => .ok (some x)) := PE.imp h fun σ H Q ⟨F0, H0, F, R, p⟩ => ⟨F0, H0, F, R, by cases m <;> exact p⟩
theorem XV.eq {e : Expr} {m m' : Res α} (h : XV X W ρ e m) (q : m' = m) : XV X W ρ e m' := by rw [q]; exact h

/-! ### operators -/
def rdOp (K : PySem.W.Frag) (f : α → β → Res γ) : R2 := fun vx vy H Q => ∃ F x y z, Sub F H ∧ Rp K F vx (toD x) ∧ Rp K F vy (toD y) ∧ f x y = .ok z ∧ ∀ v F' H', Grow F H F' H' → Rp K F' v (toD z) → Q v H'
structure OpOk (X : Cx) (o : Operator) (f : α → β → Res γ) : Prop where
  run : OpR X (binaryOp o) (rdOp X.K f)
  no : ∀ x y c i, f x y ≠ .exc c i
theorem post_op {K : PySem.W.Frag} {F H : Hp} {f : α → β → Res γ} {x : α} {y : β} {Q : VK} (no : ∀ x y c i, f x y ≠ .exc c i) (p : PostV K W F H ((f x y).map toD) Q) : ∃ z, f x y = .ok z ∧ ∀ v F' H', Grow F H F' H' → Rp K F' v (toD z) → Q v H' := by
  cases e : f x y with
  | ok z => rw [e] at p; exact ⟨z, rfl, p⟩
  | exc c i => exact absurd e (no x y c i)
  | stuck => rw [e] at p; exact p.elim
theorem OpR.imp {f : Value → Value → Sem Value} {r r' : R2} (h : OpR X f r) (i : ∀ x y H Q, r' x y H Q → r x y H Q) : OpR X f r' := fun pins s σ H x y v u Q I rx ry q => h pins s σ H x y v u Q I rx ry (i x y H Q q)
theorem XV.bin {a b : Expr} {o : Operator} {f : α → β → Res γ} {ma : Res α} {mb : Res β} (op : OpOk X o f) (ha : XV X W ρ a ma) (hb : XV X W ρ b mb) : XV X W ρ (.BinOp a o b pos) (do
    let x ← ma
    let y ← mb
    f x y) := by
  refine PE.imp (pe_op op.run ha hb) fun σ H Q ⟨F0, H0, F, R, p⟩ => ?_
  rw [Res.map_bind] at p
  refine ⟨F0, H0, F, R, ?_⟩
  refine PostV.bindG (P := fun F H m => PostV X.K W F H m Q) p (fun c i p => p) (fun p => p) fun x v F1 H1 _ g1 r1 p1 => ?_
  refine ⟨F0, H0, F1, R.grow g1, ?_⟩
  rw [Res.map_bind] at p1
  refine PostV.bindG (P := fun F H m => PostV X.K W F H m Q) (PostV.grow g1 p1) (fun c i p => p) (fun p => p) fun y u F2 H2 _ g2 r2 p2 => ?_
  obtain ⟨z, e, q⟩ := post_op op.no (PostV.grow g2 p2)
  exact ⟨F2, x, y, z, g2.fh, r1.sub g2.f, r2, e, q⟩
theorem op_of_int {o : Operator} {C : Int → Int → Prop} {g : Int → Int → Int} {f : Int → Int → Res Int} (h : OpR X (binaryOp o) (rI C fun i j => .int (g i j))) (hf : ∀ i j z, f i j = .ok z → C i j ∧ z = g i j) (no : ∀ x y c i, f x y ≠ .exc c i) : OpOk X o f :=
  ⟨OpR.imp h fun vx vy H Q ⟨F, x, y, z, sub, r1, r2, e, q⟩ => by
    obtain ⟨c, rfl⟩ := hf x y z e
    exact ⟨x, y, r1.int_of, r2.int_of, c, q _ F H (.refl sub) (.int _)⟩, no⟩
theorem o_add : OpOk X .Add (fun i j : Int => Res.ok (i + j)) := op_of_int (C := fun _ _ => True) (OpR.imp op_add fun x y H Q ⟨i, j, a, b, _, q⟩ => ⟨i, j, a, b, q⟩) (fun i j z e => by cases e; exact ⟨trivial, rfl⟩) (fun _ _ _ _ e => by cases e)
theorem o_sub : OpOk X .Sub (fun i j : Int => Res.ok (i - j)) := op_of_int (C := fun _ _ => True) (OpR.imp op_sub fun x y H Q ⟨i, j, a, b, _, q⟩ => ⟨i, j, a, b, q⟩) (fun i j z e => by cases e; exact ⟨trivial, rfl⟩) (fun _ _ _ _ e => by cases e)
theorem o_mul : OpOk X .Mult mulI := op_of_int op_mul (fun i j z e => by
  unfold mulI at e
  split at e
  · cases e
    rename_i h
    exact ⟨h, rfl⟩
  · cases e) (fun x y c i e => by unfold mulI at e; split at e <;> cases e)
theorem o_fdiv : OpOk X .FloorDiv fdivI := op_of_int op_fdivN (fun i j z e => by
  unfold fdivI at e
  split at e
  · cases e
    rename_i h
    exact ⟨h, rfl⟩
  · cases e) (fun x y c i e => by unfold fdivI at e; split at e <;> cases e)
theorem o_mod : OpOk X .Mod modI := op_of_int op_modN (fun i j z e => by
  unfold modI at e
  split at e
  · cases e
    rename_i h
    exact ⟨h, rfl⟩
  · cases e) (fun x y c i e => by unfold modI at e; split at e <;> cases e)
theorem o_pow : OpOk X .Pow powI := op_of_int op_pow (fun i j z e => by
  unfold powI at e
  split at e
  · cases e
    rename_i h
    exact ⟨⟨h.1, h.2.1, by have := h.2.2; unfold big at this; omega⟩, rfl⟩
  · cases e) (fun x y c i e => by unfold powI at e; split at e <;> cases e)
/-- -a -/
theorem XV.neg {a : Expr} {ma : Res Int} (ha : XV X W ρ a ma) : XV X W ρ (.UnaryOp .USub a pos) (do
    let x ← ma
    .ok (-x)) := by
  refine PE.imp (pe_un un_neg ha) fun σ H Q ⟨F0, H0, F, R, p⟩ => ?_
  rw [Res.map_bind] at p
  refine ⟨F0, H0, F, R, ?_⟩
  refine PostV.bindG (P := fun F H m => PostV X.K W F H m Q) p (fun c i p => p) (fun p => p) fun x v F1 H1 _ g1 r1 p1 => ?_
  exact ⟨x, r1.int_of, p1 _ F1 H1 g1 (.int _)⟩

/-! ### comparisons -/
theorem RpH.int_of {K : PySem.W.Frag} {F H : Hp} {v : V} {i : Int} (r : RpH K F H v (.int i)) : v = .int i := by
  rcases r with r | ⟨a, _, c⟩
  · exact r.int_of
  · obtain ⟨_, ⟨_, _, _, _, e⟩ | ⟨_, _, _, _, e⟩ | ⟨_, _, _, _, e⟩⟩ := c <;> cases e
theorem RpH.lst_of {K : PySem.W.Frag} {F H : Hp} {v : V} {ds : List PyData} (s : Sub F H) (r : RpH K F H v (.list ds)) : ∃ a xs, v = .ref a ∧ H a = some (.lst xs) ∧ RpAll K F xs ds := by
  rcases r with r | ⟨a, e, c⟩
  · obtain ⟨a, xs, e, h1, h2⟩ := r.lst_of
    exact ⟨a, xs, e, s _ _ h1, h2⟩
  · obtain ⟨_, ⟨xs, _, h1, h2, q⟩ | ⟨_, _, _, _, q⟩ | ⟨_, _, _, _, q⟩⟩ := c <;> cases q
    exact ⟨a, xs, e, h1, h2⟩
theorem RpH.tup_of {K : PySem.W.Frag} {F H : Hp} {v : V} {ds : List PyData} (s : Sub F H) (r : RpH K F H v (.tuple ds)) : ∃ a xs, v = .ref a ∧ SqT K H a xs ∧ RpAll K F xs ds := by
  rcases r with r | ⟨a, e, c⟩
  · obtain ⟨a, xs, e, h1, h2⟩ := r.tup_of
    exact ⟨a, xs, e, sub_seqT s h1, h2⟩
  · obtain ⟨_, ⟨_, _, _, _, q⟩ | ⟨_, _, _, _, q⟩ | ⟨_, _, _, _, q⟩⟩ := c <;> cases q
theorem RpH.dp {K : PySem.W.Frag} {F H : Hp} {v : V} {d : PyData} (s : Sub F H) (r : RpH K F H v d) (l : d.canLay0 = true) : Dp K H v d := by
  rcases r with r | ⟨a, rfl, c⟩
  · exact r.dp s l
  · obtain ⟨_, ⟨xs, ds, h1, h2, rfl⟩ | ⟨_, _, _, _, rfl⟩ | ⟨_, _, _, _, rfl⟩⟩ := c
    · exact .lst (.inl (.inl h1)) (h2.dp s (by simpa [PyData.canLay0] using l))
    · simp [PyData.canLay0] at l
    · simp [PyData.canLay0] at l
def rdCmp (K : PySem.W.Frag) (f : α → β → Bool) : R2 := fun vx vy H Q => ∃ F x y, Sub F H ∧ RpH K F H vx (toD x) ∧ RpH K F H vy (toD y) ∧ Q (.bl (f x y)) H
abbrev CmpOk (X : Cx) (o : CmpOp) (f : α → β → Bool) : Prop := OpR X (compareOp o) (rdCmp X.K f)
theorem rd_cmp {a b : Expr} {f : α → β → Bool} {ma : Res α} {mb : Res β} {σ : St} {H : Hp} {Q : VK} (h : rdV X.K X.N.length W ρ ((do
    let x ← ma
    let y ← mb
    Res.ok (f x y)).map toD) σ H Q) : tOp (rdCmp X.K f) (rdW X.K X.N.length W ρ (ma.map toD)) (rdW X.K X.N.length W ρ (mb.map toD)) σ H Q := by
  obtain ⟨F0, H0, F, R, p⟩ := h
  rw [Res.map_bind] at p
  refine ⟨F0, H0, F, R, ?_⟩
  cases ma with
  | exc c i => exact p
  | stuck => exact p
  | ok x =>
    intro v F1 H1 g1 r1
    refine ⟨F0, H0, F1, R.grow g1, ?_⟩
    have p1 := PostV.grow g1 p
    cases mb with
    | exc c i => exact p1
    | stuck => exact p1
    | ok y =>
      intro u F2 H2 g2 r2
      exact ⟨F2, x, y, g2.fh, r1.grow g2, r2, p1 _ F2 H2 g2 (.bl _)⟩
theorem XV.cmp {a b : Expr} {o : CmpOp} {f : α → β → Bool} {ma : Res α} {mb : Res β} (op : CmpOk X o f) (ha : XW X W ρ a ma) (hb : XW X W ρ b mb) (hm : behindInMarks o b = false := by first | exact nomark _ | rfl) : XV X W ρ (.Compare a [o] [b] pos) (do
    let x ← ma
    let y ← mb
    .ok (f x y)) := PE.imp (pe_cmpR op ha hb hm) fun σ H Q h => rd_cmp (a := a) (b := b) h
/-- a < b < c -/
theorem XV.chain {a b c : Expr} {o o' : CmpOp} {f : α → β → Bool} {f' : β → γ → Bool} {ma : Res α} {mb : Res β} {mc : Res γ} (op : CmpOk X o f) (op' : CmpOk X o' f') (ha : XW X W ρ a ma) (hb : XW X W ρ b mb) (hc : XW X W ρ c mc)
    (hm : lastMarks [o, o'] [b, c] = false := by rfl) : XV X W ρ (.Compare a [o, o'] [b, c] pos) (do
    let x ← ma
    let y ← mb
    if f x y then do
      let z ← mc
      .ok (f' y z)
    else .ok false) := by
  refine PE.imp (pe_chain op op' ha hb hc hm) fun σ H Q ⟨F0, H0, F, R, p⟩ => ?_
  rw [Res.map_bind] at p
  refine ⟨F0, H0, F, R, ?_⟩
  cases ma with
  | exc c i => exact p
  | stuck => exact p
  | ok x =>
    intro v F1 H1 g1 r1
    refine ⟨F0, H0, F1, R.grow g1, ?_⟩
    have p1 := PostV.grow g1 p
    cases mb with
    | exc c i => exact p1
    | stuck => exact p1
    | ok y =>
      intro u F2 H2 g2 r2
      have p2 := PostV.grow g2 p1
      refine ⟨F2, x, y, g2.fh, r1.grow g2, r2, f x y, rfl, ?_⟩
      simp only [Res.ok_bind] at p2
      cases e : f x y with
      | false =>
        rw [e] at p2
        exact p2 _ F2 H2 (.refl g2.fh) (.bl _)
      | true =>
        rw [e] at p2
        simp only [if_true] at p2 ⊢
        refine ⟨F0, H0, F2, (R.grow g1).grow g2, ?_⟩
        cases mc with
        | exc c i => exact p2
        | stuck => exact p2
        | ok z =>
          intro w F3 H3 g3 r3
          exact ⟨F3, y, z, g3.fh, r2.grow g3, r3, p2 _ F3 H3 g3 (.bl _)⟩
theorem cmp_int {o : CmpOp} {g : Int → Int → Bool} (h : OpR X (compareOp o) (rI0 fun i j => .bl (g i j))) : CmpOk X o g := OpR.imp h fun vx vy H Q ⟨F, x, y, s, r1, r2, q⟩ => ⟨x, y, r1.int_of, r2.int_of, q⟩
theorem c_lt : CmpOk X .Lt (fun i j : Int => decide (i < j)) := cmp_int op_lt
theorem c_le : CmpOk X .LtE (fun i j : Int => decide (i ≤ j)) := cmp_int op_le
theorem c_gt : CmpOk X .Gt (fun i j : Int => decide (j < i)) := cmp_int op_gt
theorem c_ge : CmpOk X .GtE (fun i j : Int => decide (j ≤ i)) := cmp_int op_ge
theorem shaped_of [DecidableEq α] [PyEq α] (h : PyEq.dp α ≤ 60) (a : α) : SeqAt.shaped (toD a) = true := by
  unfold SeqAt.shaped
  rw [PyEq.lay, decide_eq_true (Nat.le_trans (PyEq.dep a) (Nat.le_trans h (by decide)))]; rfl
theorem c_eq {k : Nat} [DecidableEq α] [PyEq α] (hr : Room k X.A) (h : PyEq.dp α ≤ 60 := by decide) : CmpOk X .Eq (fun a b : α => decide (a = b)) :=
  OpR.imp (op_eqD hr.units) fun vx vy H Q ⟨F, x, y, s, r1, r2, q⟩ => ⟨_, _, r1.dp s (PyEq.lay x), r2.dp s (PyEq.lay y), shaped_of h x, shaped_of h y, by rw [PyEq.eqv]; exact q⟩
theorem c_ne {k : Nat} [DecidableEq α] [PyEq α] (hr : Room k X.A) (h : PyEq.dp α ≤ 60 := by decide) : CmpOk X .NotEq (fun a b : α => !decide (a = b)) :=
  OpR.imp (op_neD hr.units) fun vx vy H Q ⟨F, x, y, s, r1, r2, q⟩ => ⟨_, _, r1.dp s (PyEq.lay x), r2.dp s (PyEq.lay y), shaped_of h x, shaped_of h y, by rw [PyEq.eqv]; exact q⟩
theorem any_eqv [DecidableEq α] [PyEq α] (x : α) : ∀ xs : List α, (xs.map toD).any (fun z => PyData.eqv z (toD x)) = decide (x ∈ xs)
  | [] => by simp
  | y :: ys => by
    rw [List.map_cons, List.any_cons, PyEq.eqv, any_eqv x ys]
    by_cases h : y = x
    · subst h; simp
    · have h' : ¬ x = y := fun e => h e.symm
      simp [h, h']
theorem c_in {k : Nat} [DecidableEq α] [PyEq α] (hr : Room (k + 1) X.A) (h : PyEq.dp α ≤ 58 := by decide) : CmpOk X .In (fun (a : α) (xs : List α) => decide (a ∈ xs)) :=
  OpR.imp (op_inD (by have := hr.un; omega)) fun vx vy H Q ⟨F, x, y, s, r1, r2, q⟩ =>
    ⟨toD x, y.map toD, r1.dp s (PyEq.lay x), r2.dp s (PyEq.lay y), shaped_of (by omega) x, shaped_of (α := List α) (by show PyEq.dp α + 1 ≤ 60; omega) y, by rw [any_eqv]; exact q⟩
theorem c_notin {k : Nat} [DecidableEq α] [PyEq α] (hr : Room (k + 1) X.A) (h : PyEq.dp α ≤ 58 := by decide) : CmpOk X .NotIn (fun (a : α) (xs : List α) => !decide (a ∈ xs)) :=
  OpR.imp (op_notInD (by have := hr.un; omega)) fun vx vy H Q ⟨F, x, y, s, r1, r2, q⟩ =>
    ⟨toD x, y.map toD, r1.dp s (PyEq.lay x), r2.dp s (PyEq.lay y), shaped_of (by omega) x, shaped_of (α := List α) (by show PyEq.dp α + 1 ≤ 60; omega) y, by rw [any_eqv]; exact q⟩
/-- is None -/
theorem RpH.non_iff {K : PySem.W.Frag} {F H : Hp} {v : V} {o : Option α} [NN α] (r : RpH K F H v (toD o)) : v = .non ↔ o = none := by
  rcases r with r | ⟨a, rfl, c⟩
  · rw [r.non_iff]
    cases o with
    | none => simp [toD]
    | some x => simp only [reduceCtorEq, iff_false]; exact NN.nn x
  · cases o with
    | none => obtain ⟨_, ⟨_, _, _, _, e⟩ | ⟨_, _, _, _, e⟩ | ⟨_, _, _, _, e⟩⟩ := c <;> cases e
    | some x => simp
theorem XV.isN {a : Expr} {ma : Res (Option α)} [NN α] {j : Nat} {p2 : Pos} (ha : XW X W ρ a ma) : XV X W ρ (.Compare a [.Is] [.Constant .none j p2] pos) (do
    let x ← ma
    .ok (decide (x = none))) := by
  refine PE.imp (pe_cmp (pc_isN ha) rfl) fun σ H Q ⟨F0, H0, F, R, p⟩ => ⟨F0, H0, F, R, ?_⟩
  cases ma with
  | exc c i => exact p
  | stuck => exact p
  | ok x =>
    intro v F1 H1 g1 r1
    have e : decide (v = .non) = decide (x = none) := by rw [decide_eq_decide]; exact r1.non_iff
    rw [e]
    exact p _ F1 H1 g1 (.bl _)
theorem XV.notN {a : Expr} {ma : Res (Option α)} [NN α] {j : Nat} {p2 : Pos} (ha : XW X W ρ a ma) : XV X W ρ (.Compare a [.IsNot] [.Constant .none j p2] pos) (do
    let x ← ma
    .ok (!decide (x = none))) := by
  refine PE.imp (pe_cmp (pc_notN ha) rfl) fun σ H Q ⟨F0, H0, F, R, p⟩ => ⟨F0, H0, F, R, ?_⟩
  cases ma with
  | exc c i => exact p
  | stuck => exact p
  | ok x =>
    intro v F1 H1 g1 r1
    have e : decide (v = .non) = decide (x = none) := by rw [decide_eq_decide]; exact r1.non_iff
    rw [e]
    exact p _ F1 H1 g1 (.bl _)

/-! ### tests, and, or, not, a if t else b -/
theorem XT.val {e : Expr} {m : Res Bool} (h : XV X W ρ e m) (he : ∀ whole, isTrue e X.env whole = (do let v ← whole; standAt e.pos; holding [v] (truthy v)) := by intro _; rfl) : XT X W ρ e m := by
  refine PT.imp (pt_val h he) fun σ H Q ⟨F0, H0, F, R, p⟩ => ⟨F0, H0, F, R, ?_⟩
  cases m with
  | exc c i => exact p
  | stuck => exact p
  | ok x => exact fun v F1 H1 g1 r1 => ⟨x, r1.bl_of, p F1 H1 g1⟩
abbrev XW2 (X : Cx) (W : WX) (ρ : Rs) (e : Expr) (m : Res Bool) : Prop := PW X e (rdT X.K X.N.length W ρ m)
theorem XT.pw {e : Expr} {m : Res Bool} (h : XW2 X W ρ e m) : XT X W ρ e m := h.pt
theorem XT.and1 {a : Expr} {m : Res Bool} (h : XT X W ρ a m) : XW2 X W ρ (.BoolOp .And [a] pos) m := pw_and1 h
theorem XT.or1 {a : Expr} {m : Res Bool} (h : XT X W ρ a m) : XW2 X W ρ (.BoolOp .Or [a] pos) m := pw_or1 h
theorem XT.and {a b : Expr} {rest : List Expr} {ma mb : Res Bool} (ha : XT X W ρ a ma) (hb : XW2 X W ρ (.BoolOp .And (b :: rest) pos) mb) : XW2 X W ρ (.BoolOp .And (a :: b :: rest) pos) (do
    let x ← ma
    if x then mb else .ok false) := by
  refine PW.imp (pw_and ha hb) fun σ H Q ⟨F0, H0, F, R, p⟩ => ⟨F0, H0, F, R, ?_⟩
  cases ma with
  | exc c i => exact p
  | stuck => exact p
  | ok x =>
    intro F1 H1 g1
    have p1 := PostT.grow g1 p
    cases x with
    | true => exact ⟨F0, H0, F1, R.grow g1, p1⟩
    | false => exact p1 F1 H1 (.refl g1.fh)
theorem XT.or {a b : Expr} {rest : List Expr} {ma mb : Res Bool} (ha : XT X W ρ a ma) (hb : XW2 X W ρ (.BoolOp .Or (b :: rest) pos) mb) : XW2 X W ρ (.BoolOp .Or (a :: b :: rest) pos) (do
    let x ← ma
    if x then .ok true else mb) := by
  refine PW.imp (pw_or ha hb) fun σ H Q ⟨F0, H0, F, R, p⟩ => ⟨F0, H0, F, R, ?_⟩
  cases ma with
  | exc c i => exact p
  | stuck => exact p
  | ok x =>
    intro F1 H1 g1
    have p1 := PostT.grow g1 p
    cases x with
    | false => exact ⟨F0, H0, F1, R.grow g1, p1⟩
    | true => exact p1 F1 H1 (.refl g1.fh)
theorem XT.not {a : Expr} {ma : Res Bool} (ha : XT X W ρ a ma) : XT X W ρ (.UnaryOp .Not a pos) (do
    let x ← ma
    .ok (!x)) := by
  refine PT.imp (pt_not ha) fun σ H Q ⟨F0, H0, F, R, p⟩ => ⟨F0, H0, F, R, ?_⟩
  cases ma with
  | exc c i => exact p
  | stuck => exact p
  | ok x => exact fun F1 H1 g1 => p F1 H1 g1
theorem XV.one {o : BoolOp} {a : Expr} {m : Res Bool} (h : XV X W ρ a m) : XV X W ρ (.BoolOp o [a] pos) m := pe_one h
theorem XV.and {a b : Expr} {rest : List Expr} {ma mb : Res Bool} (ha : XV X W ρ a ma) (hb : XV X W ρ (.BoolOp .And (b :: rest) pos) mb) : XV X W ρ (.BoolOp .And (a :: b :: rest) pos) (do
    let x ← ma
    if x then mb else .ok false) := by
  refine PE.imp (pe_and ha hb) fun σ H Q ⟨F0, H0, F, R, p⟩ => ⟨F0, H0, F, R, ?_⟩
  cases ma with
  | exc c i => exact p
  | stuck => exact p
  | ok x =>
    intro v F1 H1 g1 r1
    have p1 := PostV.grow g1 p
    refine ⟨x, r1.bl_of, ?_⟩
    cases x with
    | true => exact ⟨F0, H0, F1, R.grow g1, p1⟩
    | false => exact p1 _ F1 H1 (.refl g1.fh) (.bl _)
theorem XV.or {a b : Expr} {rest : List Expr} {ma mb : Res Bool} (ha : XV X W ρ a ma) (hb : XV X W ρ (.BoolOp .Or (b :: rest) pos) mb) : XV X W ρ (.BoolOp .Or (a :: b :: rest) pos) (do
    let x ← ma
    if x then .ok true else mb) := by
  refine PE.imp (pe_or ha hb) fun σ H Q ⟨F0, H0, F, R, p⟩ => ⟨F0, H0, F, R, ?_⟩
  cases ma with
  | exc c i => exact p
  | stuck => exact p
  | ok x =>
    intro v F1 H1 g1 r1
    have p1 := PostV.grow g1 p
    refine ⟨x, r1.bl_of, ?_⟩
    cases x with
    | false => exact ⟨F0, H0, F1, R.grow g1, p1⟩
    | true => exact p1 _ F1 H1 (.refl g1.fh) (.bl _)
theorem XV.not {a : Expr} {ma : Res Bool} (ha : XV X W ρ a ma) : XV X W ρ (.UnaryOp .Not a pos) (do
    let x ← ma
    .ok (!x)) := by
  refine PE.imp (pe_not ha) fun σ H Q ⟨F0, H0, F, R, p⟩ => ⟨F0, H0, F, R, ?_⟩
  cases ma with
  | exc c i => exact p
  | stuck => exact p
  | ok x => exact fun v F1 H1 g1 r1 => ⟨x, r1.bl_of, p _ F1 H1 g1 (.bl _)⟩
theorem XV.ite {t a b : Expr} {mt : Res Bool} {ma mb : Res α} (ht : XT X W ρ t mt) (ha : XV X W ρ a ma) (hb : XV X W ρ b mb) : XV X W ρ (.IfExp t a b pos) (do
    let x ← mt
    if x then ma else mb) := by
  refine PE.imp (pe_ifExp ht ha hb) fun σ H Q ⟨F0, H0, F, R, p⟩ => ⟨F0, H0, F, R, ?_⟩
  cases mt with
  | exc c i => exact p
  | stuck => exact p
  | ok x =>
    intro F1 H1 g1
    have p1 := PostV.grow g1 p
    cases x with
    | true => exact ⟨F0, H0, F1, R.grow g1, p1⟩
    | false => exact ⟨F0, H0, F1, R.grow g1, p1⟩
end
end Vs
end
section
set_option Elab.async false
set_option linter.all false
set_option maxRecDepth 100000
set_option maxHeartbeats 1000000
/-! Vs3: displays, items, slices, built-ins. -/
namespace Vs
open Enc (toD)
open PySem PySem.Spec PyProof.Rows L2

theorem lim_line : lim = sizeLine := by rw [sizeLine_eq]; rfl
section
variable {X : Cx} {W : WX} {ρ : Rs} {pos : Pos} {α β γ δ ε ζ : Type} [Enc α] [Enc β] [Enc γ] [Enc δ] [Enc ε] [Enc ζ]
theorem XF.eq {e : Expr} {m m' : Res α} (h : XF X W ρ e m) (q : m' = m) : XF X W ρ e m' := by rw [q]; exact h
theorem XW.eq {e : Expr} {m m' : Res α} (h : XW X W ρ e m) (q : m' = m) : XW X W ρ e m' := by rw [q]; exact h
theorem XT.eq {e : Expr} {m m' : Res Bool} (h : XT X W ρ e m) (q : m' = m) : XT X W ρ e m' := by rw [q]; exact h
theorem XA.eq {e : List Expr} {m m' : Res (List PyData)} (h : XA X W ρ e m) (q : m' = m) : XA X W ρ e m' := by rw [q]; exact h

/-! ### a new list or dict, read or frozen -/
theorem XF.w {e : Expr} {m : Res α} (h : XF X W ρ e m) : XW X W ρ e m := PE.imp h fun σ H Q ⟨F0, H0, F, R, p⟩ => ⟨F0, H0, F, R, by
  cases m with
  | ok d => exact fun a F' H' g _ c => p _ F' H' g (.inr ⟨a, rfl, c⟩)
  | exc c i => exact p
  | stuck => exact p⟩
theorem cell_freezeL {K : PySem.W.Frag} {F H F' H' : Hp} {a : Addr} {xs : List V} (g : Grow F H F' H') (n : H a = none) (e : H' a = some (.lst xs)) (z : F' a = none) : Grow F H (upd F' a (.lst xs)) H' :=
  ⟨fun b o q => sub_upd z b o (g.f b o q), g.h, fun b o q => by
    by_cases hb : b = a
    · subst hb; rw [upd_same] at q; cases q; exact e
    · rw [upd_ne hb] at q; exact g.fh b o q, fun b hb => by rw [upd_ne (fun q => hb.1 (by rw [q, n]))]; exact g.fn b hb⟩
theorem cell_freezeD {F H F' H' : Hp} {a : Addr} {u v : HO} (g : Grow F H F' H') (n : H a = none) (z : F' a = none) : Grow F H (upd F' a v) (upd H' a v) :=
  ⟨fun b o q => sub_upd z b o (g.f b o q), fun b o q => by rw [upd_ne (ne_of_none q n)]; exact g.h b o q, sub_upd2 g.fh, fun b hb => by rw [upd_ne (fun q => hb.1 (by rw [q, n]))]; exact g.fn b hb⟩
theorem XF.v {e : Expr} {m : Res α} (h : XF X W ρ e m) : XV X W ρ e m := by
  refine ⟨fun pins s σ H Q I ⟨F0, H0, F, R, p⟩ => ?_⟩
  cases m with
  | exc c i => exact h.run pins s σ H Q I ⟨F0, H0, F, R, p⟩
  | stuck => exact p.elim
  | ok d =>
    refine thn (h.run pins s σ H (fun v H1 => ∃ a F1, v = .ref a ∧ Grow F H F1 H1 ∧ H a = none ∧ Cell X.K F1 H1 a (toD d)) I ⟨F0, H0, F, R, fun a F' H' g n c => ⟨a, F', rfl, g, n, c⟩⟩) fun u s1 ⟨v, H1, I1, rv, a, F1, ev, g, n, c⟩ => ?_
    subst ev
    obtain ⟨z, ⟨xs, ds, e1, r, e2⟩ | ⟨kvs, ds, e1, r, e2⟩ | ⟨kvs, ds, e1, r, e2⟩⟩ := c
    · refine ⟨.ref a, H1, I1, rv, p (.ref a) _ H1 (cell_freezeL (K := X.K) g n e1 z) ?_⟩
      rw [e2]
      exact .lst upd_same (r.sub (sub_upd z))
    · obtain ⟨od, I2⟩ := I1.lock e1 trivial
      refine ⟨.ref a, _, I2, rv, p (.ref a) _ _ (cell_freezeD (u := .frz od (.dK kvs)) g n z) ?_⟩
      rw [e2]
      exact .dk upd_same (r.sub (sub_upd z))
    · obtain ⟨od, I2⟩ := I1.lock e1 trivial
      refine ⟨.ref a, _, I2, rv, p (.ref a) _ _ (cell_freezeD (u := .frz od (.dT kvs)) g n z) ?_⟩
      rw [e2]
      exact .dt upd_same (r.sub (sub_upd z))

/-! ### lists of arguments -/
theorem XA.nil : XA X W ρ [] (.ok []) := PA.imp pa_nil fun σ H Q ⟨F0, H0, F, R, p⟩ => p [] F H (.refl R.fh) .nil
theorem XA.cons {e : Expr} {es : List Expr} {m : Res α} {k : Res (List PyData)} (he : XV X W ρ e m) (hr : XA X W ρ es k) (hs : starEach (e :: es) X.env = (false, eval e X.env) :: starEach es X.env := by rfl) : XA X W ρ (e :: es) (do
    let x ← m
    let xs ← k
    .ok (toD x :: xs)) := by
  refine PA.imp (pa_cons he hr hs) fun σ H Q ⟨F0, H0, F, R, p⟩ => ⟨F0, H0, F, R, ?_⟩
  cases m with
  | exc c i => exact p
  | stuck => exact p
  | ok x =>
    intro v F1 H1 g1 r1
    refine ⟨F0, H0, F1, R.grow g1, ?_⟩
    have p1 := PostA.grow g1 p
    cases k with
    | exc c i => exact p1
    | stuck => exact p1
    | ok ds => exact fun vs F2 H2 g2 r2 => p1 _ F2 H2 g2 (.cons (r1.sub g2.f) r2)
theorem XA.star {e : Expr} {es : List Expr} {p1 : Pos} {m : Res (List α)} {k : Res (List PyData)} (he : XW X W ρ e m) (hr : XA X W ρ es k) (hs : starEach (.Starred e p1 :: es) X.env = (true, eval e X.env) :: starEach es X.env := by rfl) : XA X W ρ (.Starred e p1 :: es) (do
    let x ← m
    let xs ← k
    .ok (x.map toD ++ xs)) := by
  refine PA.imp (StX.pa_star he hr hs) fun σ H Q ⟨F0, H0, F, R, p⟩ => ⟨F0, H0, F, R, ?_⟩
  cases m with
  | exc c i => exact p
  | stuck => exact p
  | ok x =>
    intro v F1 H1 g1 r1
    obtain ⟨a, xs, rfl, h1, h2⟩ := r1.lst_of g1.fh
    refine ⟨a, xs, rfl, .inr (.inl (.inl h1)), F0, H0, F1, R.grow g1, ?_⟩
    have p1 := PostA.grow g1 p
    cases k with
    | exc c i => exact p1
    | stuck => exact p1
    | ok ds => exact fun vs F2 H2 g2 r2 => p1 _ F2 H2 g2 ((h2.sub g2.f).append r2)
/-- items of one kind -/
abbrev XL (X : Cx) (W : WX) (ρ : Rs) {α : Type} [Enc α] (es : List Expr) (m : Res (List α)) : Prop := XA X W ρ es (m.map fun xs => xs.map toD)
theorem XL.nil : XL X W ρ [] (.ok ([] : List α)) := XA.nil
theorem XL.cons {e : Expr} {es : List Expr} {m : Res α} {k : Res (List α)} (he : XV X W ρ e m) (hr : XL X W ρ es k) (hs : starEach (e :: es) X.env = (false, eval e X.env) :: starEach es X.env := by rfl) : XL X W ρ (e :: es) (do
    let x ← m
    let xs ← k
    .ok (x :: xs)) := (XA.cons he hr hs).eq (by cases m <;> cases k <;> rfl)
theorem XL.star {e : Expr} {es : List Expr} {p1 : Pos} {m : Res (List α)} {k : Res (List α)} (he : XW X W ρ e m) (hr : XL X W ρ es k) (hs : starEach (.Starred e p1 :: es) X.env = (true, eval e X.env) :: starEach es X.env := by rfl) : XL X W ρ (.Starred e p1 :: es) (do
    let x ← m
    let xs ← k
    .ok (x ++ xs)) := (XA.star he hr hs).eq (by cases m <;> cases k <;> simp [Res.map])
theorem mkL_ok {xs : List α} {ys : List α} (h : mkL xs = .ok ys) : ys = xs ∧ xs.length ≤ sizeLine := by
  unfold mkL at h
  split at h
  · cases h
    rename_i h
    exact ⟨rfl, by rw [← lim_line]; exact h⟩
  · cases h
/-- a list display -/
theorem XF.lstG {es : List Expr} {m : Res (List α)} (h : XL X W ρ es m) : XF X W ρ (.List es pos) (m >>= mkL) := by
  refine PE.imp (pe_lst h) fun σ H Q ⟨F0, H0, F, R, p⟩ => ⟨F0, H0, F, R, ?_⟩
  cases m with
  | exc c i => exact p
  | stuck => exact p
  | ok xs =>
    intro vs F1 H1 g1 r1
    have p1 : PostF X.K W F H ((mkL xs).map toD) Q := p
    unfold mkL at p1
    split at p1
    · rename_i hl
      have hlen : vs.length ≤ sizeLine := by rw [r1.length, List.length_map, ← lim_line]; exact hl
      refine ⟨hlen, fun q nq => p1 q F1 _ (g1.trans (.own g1.fh nq)) (sub_free g1.h nq) ⟨sub_free g1.fh nq, .inl ⟨vs, _, upd_same, r1, rfl⟩⟩⟩
    · exact p1.elim
theorem XF.lst {es : List Expr} {m : Res (List α)} (h : XL X W ρ es m) (hl : ∀ xs, m = .ok xs → xs.length ≤ 1000) : XF X W ρ (.List es pos) m := (XF.lstG h).eq (by
  cases m with
  | exc c i => rfl
  | stuck => rfl
  | ok xs =>
    show Res.ok xs = mkL xs
    unfold mkL
    rw [if_pos (show xs.length ≤ lim from Nat.le_trans (hl xs rfl) (by decide))])
theorem XF.lst0 : XF X W ρ (.List [] pos) (.ok ([] : List α)) := XF.lst XL.nil (fun xs e => by cases e; exact Nat.zero_le _)
theorem XF.lst1 {a : Expr} {ma : Res α} (ha : XV X W ρ a ma) (hs : starEach [a] X.env = [(false, eval a X.env)] := by rfl) : XF X W ρ (.List [a] pos) (do
    let x ← ma
    .ok [x]) := XF.lst (XL.cons ha XL.nil hs) (fun xs e => by cases ma <;> cases e; simp)
theorem XF.lst2 {a b : Expr} {ma mb : Res α} (ha : XV X W ρ a ma) (hb : XV X W ρ b mb) (hs : starEach [a, b] X.env = [(false, eval a X.env), (false, eval b X.env)] := by rfl) (hs2 : starEach [b] X.env = [(false, eval b X.env)] := by rfl) : XF X W ρ (.List [a, b] pos) (do
    let x ← ma
    let y ← mb
    .ok [x, y]) := (XF.lst (XL.cons ha (XL.cons hb XL.nil hs2) (by rw [hs, hs2])) (fun xs e => by cases ma <;> cases mb <;> cases e; simp)).eq (by cases ma <;> cases mb <;> rfl)
theorem XF.lst3 {a b c : Expr} {ma mb mc : Res α} (ha : XV X W ρ a ma) (hb : XV X W ρ b mb) (hc : XV X W ρ c mc) (hs : starEach [a, b, c] X.env = (false, eval a X.env) :: starEach [b, c] X.env := by rfl)
    (hs2 : starEach [b, c] X.env = (false, eval b X.env) :: starEach [c] X.env := by rfl) (hs3 : starEach [c] X.env = [(false, eval c X.env)] := by rfl) : XF X W ρ (.List [a, b, c] pos) (do
    let x ← ma
    let y ← mb
    let z ← mc
    .ok [x, y, z]) := (XF.lst (XL.cons ha (XL.cons hb (XL.cons hc XL.nil hs3) hs2) hs) (fun xs e => by cases ma <;> cases mb <;> cases mc <;> cases e; simp)).eq (by cases ma <;> cases mb <;> cases mc <;> rfl)
/-- [*a, b] -/
theorem XF.lstS {a b : Expr} {p1 : Pos} {ma : Res (List α)} {mb : Res α} (ha : XW X W ρ a ma) (hb : XV X W ρ b mb) (hs : starEach (.Starred a p1 :: [b]) X.env = (true, eval a X.env) :: starEach [b] X.env := by rfl) (hs2 : starEach [b] X.env = [(false, eval b X.env)] := by rfl) : XF X W ρ (.List [.Starred a p1, b] pos) (do
    let x ← ma
    let y ← mb
    pushL x y) := (XF.lstG (XL.star ha (XL.cons hb XL.nil hs2) hs)).eq (by cases ma <;> cases mb <;> rfl)
/-- tuples -/
theorem XV.tupG {es : List Expr} {k : Nat} {m : Res (List PyData)} (h : XA X W ρ es m) (hl : ∀ xs, m = .ok xs → xs.length ≤ 1000) : PE X (.Tuple es k pos) (rdV X.K X.N.length W ρ (m >>= fun xs => .ok (.tuple xs))) := by
  refine PE.imp (pe_tup h) fun σ H Q ⟨F0, H0, F, R, p⟩ => ⟨F0, H0, F, R, ?_⟩
  cases m with
  | exc c i => exact p
  | stuck => exact p
  | ok xs =>
    intro vs F1 H1 g1 r1
    have hlen : vs.length ≤ sizeLine := by rw [r1.length]; exact Nat.le_trans (hl xs rfl) (by decide)
    exact ⟨hlen, fun q nq => p _ _ _ (g1.trans (.new g1.fh nq)) (.tup upd_same (r1.sub (sub_upd (sub_free g1.fh nq))))⟩
theorem XV.tup2 {a b : Expr} {k : Nat} {ma : Res α} {mb : Res β} (ha : XV X W ρ a ma) (hb : XV X W ρ b mb) (hs : starEach [a, b] X.env = (false, eval a X.env) :: starEach [b] X.env := by rfl) (hs2 : starEach [b] X.env = [(false, eval b X.env)] := by rfl) : XV X W ρ (.Tuple [a, b] k pos) (do
    let x ← ma
    let y ← mb
    .ok (x, y)) := by
  have h := XV.tupG (pos := pos) (k := k) (XA.cons ha (XA.cons hb XA.nil hs2) hs) (fun xs e => by cases ma <;> cases mb <;> cases e; simp)
  have q : ((do let x ← ma; let y ← mb; .ok (x, y)) : Res (α × β)).map toD = ((do let x ← ma; let xs ← (do let y ← mb; let ys ← .ok []; .ok (toD y :: ys)); .ok (toD x :: xs)) >>= fun xs => .ok (PyData.tuple xs)) := by cases ma <;> cases mb <;> rfl
  show PE X _ (rdV X.K X.N.length W ρ (((do let x ← ma; let y ← mb; .ok (x, y)) : Res (α × β)).map toD))
  rw [q]; exact h
theorem XV.tup3 {a b c : Expr} {k : Nat} {ma : Res α} {mb : Res β} {mc : Res γ} (ha : XV X W ρ a ma) (hb : XV X W ρ b mb) (hc : XV X W ρ c mc) (hs : starEach [a, b, c] X.env = (false, eval a X.env) :: starEach [b, c] X.env := by rfl)
    (hs2 : starEach [b, c] X.env = (false, eval b X.env) :: starEach [c] X.env := by rfl) (hs3 : starEach [c] X.env = [(false, eval c X.env)] := by rfl) : XV X W ρ (.Tuple [a, b, c] k pos) (do
    let x ← ma
    let y ← mb
    let z ← mc
    .ok (T3.mk x y z)) := by
  have h := XV.tupG (pos := pos) (k := k) (XA.cons ha (XA.cons hb (XA.cons hc XA.nil hs3) hs2) hs) (fun xs e => by cases ma <;> cases mb <;> cases mc <;> cases e; simp)
  have q : ((do let x ← ma; let y ← mb; let z ← mc; .ok (T3.mk x y z)) : Res (T3 α β γ)).map toD = ((do let x ← ma; let xs ← (do let y ← mb; let ys ← (do let z ← mc; let zs ← .ok []; .ok (toD z :: zs)); .ok (toD y :: ys)); .ok (toD x :: xs)) >>= fun xs => .ok (PyData.tuple xs)) := by cases ma <;> cases mb <;> cases mc <;> rfl
  show PE X _ (rdV X.K X.N.length W ρ (((do let x ← ma; let y ← mb; let z ← mc; .ok (T3.mk x y z)) : Res (T3 α β γ)).map toD))
  rw [q]; exact h
theorem XV.tup4 {a b c d : Expr} {k : Nat} {ma : Res α} {mb : Res β} {mc : Res γ} {md : Res δ} (ha : XV X W ρ a ma) (hb : XV X W ρ b mb) (hc : XV X W ρ c mc) (hd : XV X W ρ d md) (hs : starEach [a, b, c, d] X.env = (false, eval a X.env) :: starEach [b, c, d] X.env := by rfl)
    (hs2 : starEach [b, c, d] X.env = (false, eval b X.env) :: starEach [c, d] X.env := by rfl) (hs3 : starEach [c, d] X.env = (false, eval c X.env) :: starEach [d] X.env := by rfl) (hs4 : starEach [d] X.env = [(false, eval d X.env)] := by rfl) : XV X W ρ (.Tuple [a, b, c, d] k pos) (do
    let x ← ma
    let y ← mb
    let z ← mc
    let w ← md
    .ok (T4.mk x y z w)) := by
  have h := XV.tupG (pos := pos) (k := k) (XA.cons ha (XA.cons hb (XA.cons hc (XA.cons hd XA.nil hs4) hs3) hs2) hs) (fun xs e => by cases ma <;> cases mb <;> cases mc <;> cases md <;> cases e; simp)
  have q : ((do let x ← ma; let y ← mb; let z ← mc; let w ← md; .ok (T4.mk x y z w)) : Res (T4 α β γ δ)).map toD = ((do let x ← ma; let xs ← (do let y ← mb; let ys ← (do let z ← mc; let zs ← (do let w ← md; let ws ← .ok []; .ok (toD w :: ws)); .ok (toD z :: zs)); .ok (toD y :: ys)); .ok (toD x :: xs)) >>= fun xs => .ok (PyData.tuple xs)) := by cases ma <;> cases mb <;> cases mc <;> cases md <;> rfl
  show PE X _ (rdV X.K X.N.length W ρ (((do let x ← ma; let y ← mb; let z ← mc; let w ← md; .ok (T4.mk x y z w)) : Res (T4 α β γ δ)).map toD))
  rw [q]; exact h

/-! ### items -/
theorem idx_ix {n : Nat} {i : Int} : idx n i = ixN n i := rfl
theorem getL_ok {xs : List α} {i : Int} {v : α} (h : getL xs i = .ok v) : ∃ j, idx xs.length i = some j ∧ xs[j]? = some v := by
  unfold getL at h
  cases e : idx xs.length i with
  | none => rw [e] at h; cases h
  | some j =>
    rw [e] at h
    cases e2 : xs[j]? with
    | none => simp only [Option.bind_some, e2] at h; cases h
    | some w => simp only [Option.bind_some, e2] at h; cases h; exact ⟨j, rfl, e2⟩
theorem at_of {K : PySem.W.Frag} {F : Hp} {vs : List V} {xs : List α} (r : RpAll K F vs (xs.map toD)) {i : Int} {x : α} (h : getL xs i = .ok x) : ∃ v, atI vs i = some v ∧ Rp K F v (toD x) := by
  obtain ⟨j, h1, h2⟩ := getL_ok h
  have e : (xs.map toD)[j]? = some (toD x) := by rw [List.getElem?_map, h2]; rfl
  obtain ⟨v, h3, h4⟩ := r.get e
  refine ⟨v, ?_, h4⟩
  unfold atI
  rw [r.length, List.length_map, show ixN xs.length i = some j from h1]
  exact h3
theorem getL_no {xs : List α} {i : Int} {c : Str} {k : Int} : getL xs i ≠ .exc c k := by
  unfold getL
  intro h
  split at h <;> cases h
/-- xs[i] -/
theorem XV.idx {o i : Expr} {mo : Res (List α)} {mi : Res Int} (ho : XW X W ρ o mo) (hi : XV X W ρ i mi) (hs : PlainIx i := by exact fun _ _ => rfl) : XV X W ρ (.Subscript o i pos) (do
    let xs ← mo
    let k ← mi
    getL xs k) := by
  refine PE.imp (pe_ix ix_list ho hi hs) fun σ H Q ⟨F0, H0, F, R, p⟩ => ⟨F0, H0, F, R, ?_⟩
  cases mo with
  | exc c i => exact p
  | stuck => exact p
  | ok xs =>
    intro v F1 H1 g1 r1
    refine ⟨F0, H0, F1, R.grow g1, ?_⟩
    have p1 := PostV.grow g1 p
    cases mi with
    | exc c i => exact p1
    | stuck => exact p1
    | ok k =>
      intro u F2 H2 g2 r2
      have p2 : PostV X.K W F2 H2 ((getL xs k).map toD) Q := PostV.grow g2 p1
      obtain ⟨a, vs, rfl, h1, h2⟩ := (r1.grow g2).lst_of g2.fh
      cases e : getL xs k with
      | exc c i => exact absurd e getL_no
      | stuck => rw [e] at p2; exact p2.elim
      | ok x =>
        rw [e] at p2
        obtain ⟨w, h3, h4⟩ := at_of h2 e
        exact ⟨a, vs, k, w, rfl, r2.int_of, .inl (.inl h1), h3, p2 w F2 H2 (.refl g2.fh) h4⟩
/-- t[i], t a tuple of one kind -/
theorem XV.idxT {o i : Expr} {mo : Res (Tup α)} {mi : Res Int} (ho : XW X W ρ o mo) (hi : XV X W ρ i mi) (hs : PlainIx i := by exact fun _ _ => rfl) : XV X W ρ (.Subscript o i pos) (do
    let xs ← mo
    let k ← mi
    getL xs.l k) := by
  refine PE.imp (pe_ix ix_tup ho hi hs) fun σ H Q ⟨F0, H0, F, R, p⟩ => ⟨F0, H0, F, R, ?_⟩
  cases mo with
  | exc c i => exact p
  | stuck => exact p
  | ok xs =>
    intro v F1 H1 g1 r1
    refine ⟨F0, H0, F1, R.grow g1, ?_⟩
    have p1 := PostV.grow g1 p
    cases mi with
    | exc c i => exact p1
    | stuck => exact p1
    | ok k =>
      intro u F2 H2 g2 r2
      have p2 : PostV X.K W F2 H2 ((getL xs.l k).map toD) Q := PostV.grow g2 p1
      obtain ⟨a, vs, rfl, h1, h2⟩ := (r1.grow g2).tup_of g2.fh
      cases e : getL xs.l k with
      | exc c i => exact absurd e getL_no
      | stuck => rw [e] at p2; exact p2.elim
      | ok x =>
        rw [e] at p2
        obtain ⟨w, h3, h4⟩ := at_of h2 e
        exact ⟨a, vs, k, w, rfl, r2.int_of, h1, h3, p2 w F2 H2 (.refl g2.fh) h4⟩
/-- p[k], k written, p a tuple of several kinds: f its k-th -/
theorem XV.item {o : Expr} {j k : Nat} {p1 : Pos} {mo : Res α} (f : α → β) (hf : ∀ x : α, ∃ ds, toD x = .tuple ds ∧ ds[k]? = some (toD (f x))) (ho : XW X W ρ o mo) : XV X W ρ (.Subscript o (.Constant (.int (k : Nat)) j p1) pos) (do
    let x ← mo
    .ok (f x)) := by
  refine PE.imp (pe_ix ix_tup ho (XV.int (X := X) (W := W) (ρ := ρ)) (fun _ _ => rfl)) fun σ H Q ⟨F0, H0, F, R, p⟩ => ⟨F0, H0, F, R, ?_⟩
  cases mo with
  | exc c i => exact p
  | stuck => exact p
  | ok x =>
    intro v F1 H1 g1 r1
    refine ⟨F0, H0, F1, R.grow g1, fun u F2 H2 g2 r2 => ?_⟩
    obtain ⟨ds, e, e2⟩ := hf x
    rw [e] at r1
    obtain ⟨a, vs, rfl, h1, h2⟩ := (r1.grow g2).tup_of g2.fh
    obtain ⟨w, h3, h4⟩ := h2.get e2
    exact ⟨a, vs, k, w, rfl, r2.int_of, h1, atI_nat h3, p w F2 H2 (g1.trans g2) h4⟩

/-! ### slices -/
theorem bnd_eq (n d : Nat) (o : Option Int) : bnd n d o = HT.sIx n d o := by
  cases o with
  | none => rfl
  | some v =>
    show (if v < 0 then (max (v + (n : Int)) 0).toNat else (min v (n : Int)).toNat) = (if v < 0 then (v + (n : Int)).toNat else min v.toNat n)
    split <;> omega
abbrev XO (X : Cx) (W : WX) (ρ : Rs) (e : Option Expr) (m : Res (Option Int)) : Prop := PO X e (fun σ H Q => ∃ F0 H0 F, Rho X.K X.N.length F0 H0 F H σ ρ ∧ (match m with
  | .ok o => ∀ F' H', Grow F H F' H' → Q o H'
  | .exc c i => ∀ dx F' H' σ', Grow F H F' H' → XdAt H' dx i → H dx = none → W (cv X.K c) (some dx) σ' H'
  | .stuck => False))
theorem XO.none : XO X W ρ none (.ok none) := ⟨fun pins s σ H Q I ⟨F0, H0, F, R, p⟩ => po_none.run pins s σ H Q I (p F H (.refl R.fh))⟩
theorem XO.some {e : Expr} {m : Res Int} (h : XV X W ρ e m) : XO X W ρ (some e) (do
    let i ← m
    .ok (some i)) := ⟨fun pins s σ H Q I ⟨F0, H0, F, R, p⟩ => (po_some h).run pins s σ H Q I ⟨F0, H0, F, R, by
  cases m with
  | exc c i => exact p
  | stuck => exact p
  | ok i => exact fun v F' H' g r => ⟨i, r.int_of, p F' H' g⟩⟩⟩
theorem cut_map {K : PySem.W.Frag} {F : Hp} {vs : List V} {xs : List α} (r : RpAll K F vs (xs.map toD)) (lo hi : Option Int) : RpAll K F (cutV vs lo hi) ((cutL xs lo hi).map toD) := by
  unfold cutV cutL
  rw [r.length, List.length_map, bnd_eq, bnd_eq, List.map_take, List.map_drop]
  exact (r.drop _).take _
theorem XF.slice {o : Expr} {lo hi : Option Expr} {p2 : Pos} {mo : Res (List α)} {ml mh : Res (Option Int)} (ho : XW X W ρ o mo) (hl : XO X W ρ lo ml) (hh : XO X W ρ hi mh) : XF X W ρ (.Subscript o (.Slice lo hi none p2) pos) (do
    let xs ← mo
    let l ← ml
    let h ← mh
    .ok (cutL xs l h)) := by
  refine PE.imp (pe_slice sl_list ho hl hh) fun σ H Q ⟨F0, H0, F, R, p⟩ => ⟨F0, H0, F, R, ?_⟩
  cases mo with
  | exc c i => exact p
  | stuck => exact p
  | ok xs =>
    intro v F1 H1 g1 r1
    refine ⟨F0, H0, F1, R.grow g1, ?_⟩
    have p1 := PostF.grow g1 p
    cases ml with
    | exc c i => exact p1
    | stuck => exact p1
    | ok l =>
      intro F2 H2 g2
      refine ⟨F0, H0, F2, (R.grow g1).grow g2, ?_⟩
      have p2 := PostF.grow g2 p1
      cases mh with
      | exc c i => exact p2
      | stuck => exact p2
      | ok h =>
        intro F3 H3 g3
        obtain ⟨a, vs, rfl, h1, h2⟩ := ((r1.grow g2).grow g3).lst_of g3.fh
        refine ⟨a, vs, rfl, .inl (.inl h1), fun q nq => p2 q F3 _ (g3.trans (.own g3.fh nq)) (sub_free g3.h nq) ⟨sub_free g3.fh nq, .inl ⟨_, _, upd_same, cut_map h2 l h, rfl⟩⟩⟩
theorem rp_reverse {K : PySem.W.Frag} {F : Hp} : ∀ {vs : List V} {ds : List PyData}, RpAll K F vs ds → RpAll K F vs.reverse ds.reverse
  | _, _, .nil => .nil
  | _, _, .cons a t => by
    rw [List.reverse_cons, List.reverse_cons]
    exact (rp_reverse t).append (.cons a .nil)
/-- xs[::-1] -/
theorem XF.rev {o : Expr} {k : Nat} {p1 p2 p3 : Pos} {mo : Res (List α)} (ho : XW X W ρ o mo) : XF X W ρ (.Subscript o (.Slice none none (some (.UnaryOp .USub (.Constant (.int 1) k p1) p2)) p3) pos) (do
    let xs ← mo
    .ok xs.reverse) := by
  refine PE.imp (pe_revL ho) fun σ H Q ⟨F0, H0, F, R, p⟩ => ⟨F0, H0, F, R, ?_⟩
  cases mo with
  | exc c i => exact p
  | stuck => exact p
  | ok xs =>
    intro v F1 H1 g1 r1
    obtain ⟨a, vs, rfl, h1, h2⟩ := r1.lst_of g1.fh
    refine ⟨a, vs, rfl, .inl (.inl h1), fun q nq => p q F1 _ (g1.trans (.own g1.fh nq)) (sub_free g1.h nq) ⟨sub_free g1.fh nq, .inl ⟨_, _, upd_same, rp_reverse h2, ?_⟩⟩⟩
    show toD xs.reverse = .list _
    rw [← List.map_reverse]; rfl

/-! ### xs + ys, xs * k -/
theorem bin_w {a b : Expr} {o : Operator} {r : R2} {ma : Res α} {mb : Res β} {k : α → β → Res γ} (op : OpR X (binaryOp o) r) (ha : XW X W ρ a ma) (hb : XW X W ρ b mb)
    (go : ∀ F H x y v u Q, Sub F H → RpH X.K F H v (toD x) → RpH X.K F H u (toD y) → PostF X.K W F H ((k x y).map toD) Q → r v u H Q) : XF X W ρ (.BinOp a o b pos) (do
    let x ← ma
    let y ← mb
    k x y) := by
  refine PE.imp (pe_op op ha hb) fun σ H Q ⟨F0, H0, F, R, p⟩ => ⟨F0, H0, F, R, ?_⟩
  cases ma with
  | exc c i => exact p
  | stuck => exact p
  | ok x =>
    intro v F1 H1 g1 r1
    refine ⟨F0, H0, F1, R.grow g1, ?_⟩
    have p1 := PostF.grow g1 p
    cases mb with
    | exc c i => exact p1
    | stuck => exact p1
    | ok y => exact fun u F2 H2 g2 r2 => go F2 H2 x y v u Q g2.fh (r1.grow g2) r2 (PostF.grow g2 p1)
theorem XF.cat {a b : Expr} {ma mb : Res (List α)} (ha : XW X W ρ a ma) (hb : XW X W ρ b mb) : XF X W ρ (.BinOp a .Add b pos) (do
    let x ← ma
    let y ← mb
    catL x y) := bin_w op_cat ha hb fun F H x y v u Q s r1 r2 p => by
  obtain ⟨a, vs, rfl, h1, h2⟩ := r1.lst_of s
  obtain ⟨b, ws, rfl, h3, h4⟩ := r2.lst_of s
  unfold catL mkL at p
  split at p
  · rename_i hl
    refine ⟨a, b, vs, ws, rfl, rfl, h1, h3, ?_, fun q nq => p q F _ (.own s nq) nq ⟨sub_free s nq, .inl ⟨_, _, upd_same, h2.append h4, ?_⟩⟩⟩
    · rw [h2.length, h4.length, List.length_map, List.length_map, ← lim_line, ← List.length_append]; exact hl
    · show toD (x ++ y) = .list _
      rw [← List.map_append]; rfl
  · exact p.elim
theorem map_rep (xs : List α) (k : Nat) : (List.replicate k (xs.map toD)).flatten = ((List.replicate k xs).flatten).map toD := by
  rw [List.map_flatten, List.map_replicate]
theorem XF.rep {a b : Expr} {ma : Res (List α)} {mb : Res Int} (ha : XW X W ρ a ma) (hb : XV X W ρ b mb) : XF X W ρ (.BinOp a .Mult b pos) (do
    let x ← ma
    let y ← mb
    repL x y) := bin_w op_rep ha hb.w fun F H x y v u Q s r1 r2 p => by
  obtain ⟨a, vs, rfl, h1, h2⟩ := r1.lst_of s
  unfold repL at p
  split at p
  · rename_i hl
    refine ⟨a, y, vs, rfl, r2.int_of, h1, hl.1, hl.2.1, ?_, fun q nq => p q F _ (.own s nq) nq ⟨sub_free s nq, .inl ⟨_, _, upd_same, h2.flat y.toNat, ?_⟩⟩⟩
    · rw [h2.length, List.length_map, ← lim_line]; exact hl.2.2
    · show toD (List.replicate y.toNat x).flatten = .list _
      rw [map_rep]; rfl
  · exact p.elim

/-! ### built-ins: one argument, two arguments -/
def rdC1 (K : PySem.W.Frag) (f : α → Res γ) : List V → Hp → VK → Prop := fun vs H Q => ∃ F x z v, Sub F H ∧ vs = [v] ∧ RpH K F H v (toD x) ∧ f x = .ok z ∧ ∀ u F' H', Grow F H F' H' → Rp K F' u (toD z) → Q u H'
def rdC1F (K : PySem.W.Frag) (f : α → Res γ) : List V → Hp → VK → Prop := fun vs H Q => ∃ F x z v, Sub F H ∧ vs = [v] ∧ RpH K F H v (toD x) ∧ f x = .ok z ∧ ∀ a F' H', Grow F H F' H' → H a = none → Cell K F' H' a (toD z) → Q (.ref a) H'
structure C1 (X : Cx) (g : Value) (f : α → Res γ) : Prop where
  run : CallR X g (rdC1 X.K f)
  no : ∀ x c i, f x ≠ .exc c i
structure C1F (X : Cx) (g : Value) (f : α → Res γ) : Prop where
  run : CallR X g (rdC1F X.K f)
  no : ∀ x c i, f x ≠ .exc c i
theorem CallR.imp {g : Value} {r r' : List V → Hp → VK → Prop} (h : CallR X g r) (i : ∀ xs H Q, r' xs H Q → r xs H Q) : CallR X g r' := fun pins s σ H xs us Q I rs q => h pins s σ H xs us Q I rs (i xs H Q q)
/-- one operand's arguments, read -/
theorem XA.one {e : Expr} {m : Res α} (he : XW X W ρ e m) (hs : starEach [e] X.env = [(false, eval e X.env)] := by rfl) : PA X [e] (fun σ H Q => ∃ F0 H0 F, Rho X.K X.N.length F0 H0 F H σ ρ ∧ PostW X.K W F H (m.map toD) (fun v H1 => Q [v] H1)) :=
  PA.imp (pa_cons he pa_nil hs) fun σ H Q ⟨F0, H0, F, R, p⟩ => ⟨F0, H0, F, R, p⟩
theorem call1_core {t : List V → Hp → VK → Prop} {e : Expr} {m : Res α} {f : α → Res γ} {call : Expr} (h : PE X call (tCB (rdC1 X.K f) (fun σ H Q => ∃ F0 H0 F, Rho X.K X.N.length F0 H0 F H σ ρ ∧ PostW X.K W F H (m.map toD) (fun v H1 => Q [v] H1)))) (no : ∀ x c i, f x ≠ .exc c i) : XV X W ρ call (do
    let x ← m
    f x) := by
  refine PE.imp h fun σ H Q ⟨F0, H0, F, R, p⟩ => ⟨F0, H0, F, R, ?_⟩
  cases m with
  | exc c i => exact p
  | stuck => exact p
  | ok x =>
    intro v F1 H1 g1 r1
    have p1 : PostV X.K W F1 H1 ((f x).map toD) Q := PostV.grow g1 p
    cases e : f x with
    | exc c i => exact absurd e (no x c i)
    | stuck => rw [e] at p1; exact p1.elim
    | ok z =>
      rw [e] at p1
      exact ⟨F1, x, z, v, g1.fh, rfl, r1, e, p1⟩
theorem call1F_core {e : Expr} {m : Res α} {f : α → Res γ} {call : Expr} (h : PE X call (tCB (rdC1F X.K f) (fun σ H Q => ∃ F0 H0 F, Rho X.K X.N.length F0 H0 F H σ ρ ∧ PostW X.K W F H (m.map toD) (fun v H1 => Q [v] H1)))) (no : ∀ x c i, f x ≠ .exc c i) : XF X W ρ call (do
    let x ← m
    f x) := by
  refine PE.imp h fun σ H Q ⟨F0, H0, F, R, p⟩ => ⟨F0, H0, F, R, ?_⟩
  cases m with
  | exc c i => exact p
  | stuck => exact p
  | ok x =>
    intro v F1 H1 g1 r1
    have p1 : PostF X.K W F1 H1 ((f x).map toD) Q := PostF.grow g1 p
    cases e : f x with
    | exc c i => exact absurd e (no x c i)
    | stuck => rw [e] at p1; exact p1.elim
    | ok z =>
      rw [e] at p1
      exact ⟨F1, x, z, v, g1.fh, rfl, r1, e, p1⟩
variable {x : Str}
theorem XV.callB {id : String} {e : Expr} {p : Pos} {m : Res α} {f : α → Res γ} (hc : C1 X (.builtin id) f) (hg : Gl X x) (hm : X.mg x = none) (hv : bootBuiltins x = some (.builtin id)) (he : XW X W ρ e m) (hn : x ≠ "__name__" := by decide) (hdb : (x == ("__debug__" : Str)) = false := by decide)
    (hs : starEach [e] X.env = [(false, eval e X.env)] := by rfl) : XV X W ρ (.Call (.Name x p) [e] [] pos) (do
    let y ← m
    f y) := call1_core (t := rdC1 X.K f) (e := e) (pe_callB hc.run hg hm hv (XA.one he hs) hn hdb hs rfl) hc.no
theorem XV.callT {T : String} {e : Expr} {p : Pos} {m : Res α} {f : α → Res γ} (hc : C1 X (.type T) f) (hg : Gl X x) (hm : X.mg x = none) (hv : bootBuiltins x = some (.type T)) (he : XW X W ρ e m) (hn : x ≠ "__name__" := by decide) (hdb : (x == ("__debug__" : Str)) = false := by decide)
    (hs : starEach [e] X.env = [(false, eval e X.env)] := by rfl) : XV X W ρ (.Call (.Name x p) [e] [] pos) (do
    let y ← m
    f y) := call1_core (t := rdC1 X.K f) (e := e) (pe_callTy hc.run hg hm hv (XA.one he hs) hn hdb hs rfl) hc.no
theorem XF.callB {id : String} {e : Expr} {p : Pos} {m : Res α} {f : α → Res γ} (hc : C1F X (.builtin id) f) (hg : Gl X x) (hm : X.mg x = none) (hv : bootBuiltins x = some (.builtin id)) (he : XW X W ρ e m) (hn : x ≠ "__name__" := by decide) (hdb : (x == ("__debug__" : Str)) = false := by decide)
    (hs : starEach [e] X.env = [(false, eval e X.env)] := by rfl) : XF X W ρ (.Call (.Name x p) [e] [] pos) (do
    let y ← m
    f y) := call1F_core (e := e) (pe_callB hc.run hg hm hv (XA.one he hs) hn hdb hs rfl) hc.no
theorem XF.callT {T : String} {e : Expr} {p : Pos} {m : Res α} {f : α → Res γ} (hc : C1F X (.type T) f) (hg : Gl X x) (hm : X.mg x = none) (hv : bootBuiltins x = some (.type T)) (he : XW X W ρ e m) (hn : x ≠ "__name__" := by decide) (hdb : (x == ("__debug__" : Str)) = false := by decide)
    (hs : starEach [e] X.env = [(false, eval e X.env)] := by rfl) : XF X W ρ (.Call (.Name x p) [e] [] pos) (do
    let y ← m
    f y) := call1F_core (e := e) (pe_callTy hc.run hg hm hv (XA.one he hs) hn hdb hs rfl) hc.no
theorem b_len : C1 X (.builtin "len") (fun xs : List α => Res.ok (lenL xs)) := ⟨CallR.imp call_len_seq fun vs H Q ⟨F, x, z, v, s, e, r, ez, q⟩ => by
  cases ez
  obtain ⟨a, xs, rfl, h1, h2⟩ := r.lst_of s
  refine ⟨a, xs, e, .inl (.inl (.inl h1)), ?_⟩
  have hl : (xs.length : Int) = lenL x := by unfold lenL; rw [h2.length, List.length_map]
  rw [hl]
  exact q _ F H (.refl s) (.int _), fun _ _ _ e => by cases e⟩
theorem b_lenT : C1 X (.builtin "len") (fun xs : Tup α => Res.ok (lenL xs.l)) := ⟨CallR.imp call_len_seq fun vs H Q ⟨F, x, z, v, s, e, r, ez, q⟩ => by
  cases ez
  obtain ⟨a, xs, rfl, h1, h2⟩ := r.tup_of s
  refine ⟨a, xs, e, .inr h1, ?_⟩
  have hl : (xs.length : Int) = lenL x.l := by unfold lenL; rw [h2.length, List.length_map]
  rw [hl]
  exact q _ F H (.refl s) (.int _), fun _ _ _ e => by cases e⟩
theorem b_abs : C1 X (.builtin "abs") (fun i : Int => Res.ok (absI i)) := ⟨CallR.imp call_abs fun vs H Q ⟨F, x, z, v, s, e, r, ez, q⟩ => by
  cases ez
  have := r.int_of
  subst this
  exact ⟨x, e, q _ F H (.refl s) (.int _)⟩, fun _ _ _ e => by cases e⟩
theorem RpH.bl_of {K : PySem.W.Frag} {F H : Hp} {v : V} {i : Bool} (r : RpH K F H v (.bool i)) : v = .bl i := by
  rcases r with r | ⟨a, _, c⟩
  · exact r.bl_of
  · obtain ⟨_, ⟨_, _, _, _, e⟩ | ⟨_, _, _, _, e⟩ | ⟨_, _, _, _, e⟩⟩ := c <;> cases e
theorem RpH.str_of {K : PySem.W.Frag} {F H : Hp} {v : V} {i : Str} (r : RpH K F H v (.str i)) : v = .str i := by
  rcases r with r | ⟨a, _, c⟩
  · exact r.str_of
  · obtain ⟨_, ⟨_, _, _, _, e⟩ | ⟨_, _, _, _, e⟩ | ⟨_, _, _, _, e⟩⟩ := c <;> cases e
theorem b_int : C1 X (.type "int") (fun i : Int => Res.ok i) := ⟨CallR.imp call_int1 fun vs H Q ⟨F, x, z, v, s, e, r, ez, q⟩ => by
  cases ez
  have := r.int_of
  subst this
  exact .inl ⟨x, e, q _ F H (.refl s) (.int _)⟩, fun _ _ _ e => by cases e⟩
theorem b_intB : C1 X (.type "int") (fun b : Bool => Res.ok (boolI b)) := ⟨CallR.imp call_int1 fun vs H Q ⟨F, x, z, v, s, e, r, ez, q⟩ => by
  cases ez
  have := r.bl_of
  subst this
  exact .inr ⟨x, e, q _ F H (.refl s) (.int _)⟩, fun _ _ _ e => by cases e⟩
theorem ints_of {K : PySem.W.Frag} {F : Hp} : ∀ {vs : List V} {xs : List Int}, RpAll K F vs (xs.map toD) → vs = xs.map V.int
  | _, [], .nil => rfl
  | _, x :: xs, .cons r t => by rw [List.map_cons, ← ints_of t]; exact congrArg (· :: _) r.int_of
theorem bls_of {K : PySem.W.Frag} {F : Hp} : ∀ {vs : List V} {xs : List Bool}, RpAll K F vs (xs.map toD) → vs = xs.map V.bl
  | _, [], .nil => rfl
  | _, x :: xs, .cons r t => by rw [List.map_cons, ← bls_of t]; exact congrArg (· :: _) r.bl_of
theorem b_sum (hc : X.calm = true) : C1 X (.builtin "sum") (fun xs : List Int => Res.ok (sumI xs)) := ⟨CallR.imp (cr_sum hc) fun vs H Q ⟨F, x, z, v, s, e, r, ez, q⟩ => by
  cases ez
  obtain ⟨a, xs, rfl, h1, h2⟩ := r.lst_of s
  rw [ints_of h2] at h1
  exact ⟨a, x, e, .inl (.inl h1), q _ F H (.refl s) (.int _)⟩, fun _ _ _ e => by cases e⟩
theorem b_all (hc : X.calm = true) : C1 X (.builtin "all") (fun xs : List Bool => Res.ok (xs.all id)) := ⟨CallR.imp (cr_all hc) fun vs H Q ⟨F, x, z, v, s, e, r, ez, q⟩ => by
  cases ez
  obtain ⟨a, xs, rfl, h1, h2⟩ := r.lst_of s
  rw [bls_of h2] at h1
  exact ⟨a, x, e, .inl (.inl h1), q _ F H (.refl s) (.bl _)⟩, fun _ _ _ e => by cases e⟩
theorem b_any (hc : X.calm = true) : C1 X (.builtin "any") (fun xs : List Bool => Res.ok (xs.any id)) := ⟨CallR.imp (cr_any hc) fun vs H Q ⟨F, x, z, v, s, e, r, ez, q⟩ => by
  cases ez
  obtain ⟨a, xs, rfl, h1, h2⟩ := r.lst_of s
  rw [bls_of h2] at h1
  exact ⟨a, x, e, .inl (.inl h1), q _ F H (.refl s) (.bl _)⟩, fun _ _ _ e => by cases e⟩
theorem foldl_max_spec : ∀ (xs : List Int) (a : Int), (xs.foldl max a = a ∨ xs.foldl max a ∈ xs) ∧ a ≤ xs.foldl max a ∧ ∀ y ∈ xs, y ≤ xs.foldl max a
  | [], a => ⟨.inl rfl, Int.le_refl _, fun _ h => nomatch h⟩
  | x :: xs, a => by
    obtain ⟨h1, h2, h3⟩ := foldl_max_spec xs (max a x)
    rw [List.foldl_cons]
    refine ⟨?_, by omega, fun y hy => ?_⟩
    · rcases h1 with h | h
      · by_cases hx : a ≤ x
        · right; rw [h]; rw [Int.max_eq_right hx]; exact List.mem_cons_self
        · left; rw [h]; omega
      · right; exact List.mem_cons_of_mem _ h
    · rcases List.mem_cons.mp hy with rfl | hy
      · omega
      · exact h3 y hy
theorem foldl_min_spec : ∀ (xs : List Int) (a : Int), (xs.foldl min a = a ∨ xs.foldl min a ∈ xs) ∧ xs.foldl min a ≤ a ∧ ∀ y ∈ xs, xs.foldl min a ≤ y
  | [], a => ⟨.inl rfl, Int.le_refl _, fun _ h => nomatch h⟩
  | x :: xs, a => by
    obtain ⟨h1, h2, h3⟩ := foldl_min_spec xs (min a x)
    rw [List.foldl_cons]
    refine ⟨?_, by omega, fun y hy => ?_⟩
    · rcases h1 with h | h
      · by_cases hx : x ≤ a
        · right; rw [h]; rw [Int.min_eq_right hx]; exact List.mem_cons_self
        · left; rw [h]; omega
      · right; exact List.mem_cons_of_mem _ h
    · rcases List.mem_cons.mp hy with rfl | hy
      · omega
      · exact h3 y hy
theorem maxL_spec {xs : List Int} {m : Int} (h : maxL xs = .ok m) : m ∈ xs ∧ ∀ y ∈ xs, y ≤ m := by
  cases xs with
  | nil => cases h
  | cons x xs =>
    cases h
    obtain ⟨h1, h2, h3⟩ := foldl_max_spec xs x
    refine ⟨?_, fun y hy => ?_⟩
    · rcases h1 with h | h
      · rw [h]; exact List.mem_cons_self
      · exact List.mem_cons_of_mem _ h
    · rcases List.mem_cons.mp hy with rfl | hy
      · exact h2
      · exact h3 y hy
theorem minL_spec {xs : List Int} {m : Int} (h : minL xs = .ok m) : m ∈ xs ∧ ∀ y ∈ xs, m ≤ y := by
  cases xs with
  | nil => cases h
  | cons x xs =>
    cases h
    obtain ⟨h1, h2, h3⟩ := foldl_min_spec xs x
    refine ⟨?_, fun y hy => ?_⟩
    · rcases h1 with h | h
      · rw [h]; exact List.mem_cons_self
      · exact List.mem_cons_of_mem _ h
    · rcases List.mem_cons.mp hy with rfl | hy
      · exact h2
      · exact h3 y hy
theorem b_max (hc : X.calm = true) : C1 X (.builtin "max") maxL := ⟨CallR.imp (cr_max hc) fun vs H Q ⟨F, x, z, v, s, e, r, ez, q⟩ => by
  obtain ⟨a, xs, rfl, h1, h2⟩ := r.lst_of s
  rw [ints_of h2] at h1
  obtain ⟨m1, m2⟩ := maxL_spec ez
  refine ⟨a, x, e, .inl (.inl h1), List.length_pos_of_mem m1, fun m q1 q2 => ?_⟩
  have : m = z := Int.le_antisymm (m2 m q1) (q2 z m1)
  subst this
  exact q _ F H (.refl s) (.int _), fun x _ _ e => by cases x <;> cases e⟩
theorem b_min (hc : X.calm = true) : C1 X (.builtin "min") minL := ⟨CallR.imp (cr_min hc) fun vs H Q ⟨F, x, z, v, s, e, r, ez, q⟩ => by
  obtain ⟨a, xs, rfl, h1, h2⟩ := r.lst_of s
  rw [ints_of h2] at h1
  obtain ⟨m1, m2⟩ := minL_spec ez
  refine ⟨a, x, e, .inl (.inl h1), List.length_pos_of_mem m1, fun m q1 q2 => ?_⟩
  have : m = z := Int.le_antisymm (q2 z m1) (m2 m q1)
  subst this
  exact q _ F H (.refl s) (.int _), fun x _ _ e => by cases x <;> cases e⟩
theorem b_list : C1F X (.type "list") (fun xs : List α => Res.ok xs) := ⟨CallR.imp call_list_of fun vs H Q ⟨F, x, z, v, s, e, r, ez, q⟩ => by
  cases ez
  obtain ⟨a, xs, rfl, h1, h2⟩ := r.lst_of s
  exact ⟨a, xs, e, .inl (.inl (.inl h1)), fun l nl => q l F _ (.own s nl) nl ⟨sub_free s nl, .inl ⟨_, _, upd_same, h2, rfl⟩⟩⟩, fun _ _ _ e => by cases e⟩
theorem b_listT : C1F X (.type "list") (fun xs : Tup α => Res.ok xs.l) := ⟨CallR.imp call_list_of fun vs H Q ⟨F, x, z, v, s, e, r, ez, q⟩ => by
  cases ez
  obtain ⟨a, xs, rfl, h1, h2⟩ := r.tup_of s
  exact ⟨a, xs, e, .inr h1, fun l nl => q l F _ (.own s nl) nl ⟨sub_free s nl, .inl ⟨_, _, upd_same, h2, rfl⟩⟩⟩, fun _ _ _ e => by cases e⟩
theorem b_tuple : C1 X (.type "tuple") (fun xs : List α => Res.ok (Tup.mk xs)) := ⟨CallR.imp call_tuple_of fun vs H Q ⟨F, x, z, v, s, e, r, ez, q⟩ => by
  cases ez
  obtain ⟨a, xs, rfl, h1, h2⟩ := r.lst_of s
  exact ⟨a, xs, e, .inl ⟨.inl (.inl h1), fun l nl => q _ _ _ (.new s nl) (.tup upd_same (h2.sub (sub_upd (sub_free s nl))))⟩⟩, fun _ _ _ e => by cases e⟩
/-- two numbers -/
theorem XV.call2 {id : String} {e e' : Expr} {p : Pos} {g : Int → Int → Int} {m m' : Res Int} (hc : CallR X (.builtin id) (fun xs H Q => ∃ i j, xs = [.int i, .int j] ∧ Q (.int (g i j)) H)) (hg : Gl X x) (hm : X.mg x = none) (hv : bootBuiltins x = some (.builtin id)) (he : XV X W ρ e m) (he' : XV X W ρ e' m')
    (hn : x ≠ "__name__" := by decide) (hdb : (x == ("__debug__" : Str)) = false := by decide) (hs : starEach [e, e'] X.env = (false, eval e X.env) :: starEach [e'] X.env := by rfl) (hs2 : starEach [e'] X.env = [(false, eval e' X.env)] := by rfl) : XV X W ρ (.Call (.Name x p) [e, e'] [] pos) (do
    let i ← m
    let j ← m'
    .ok (g i j)) := by
  refine PE.imp (pe_callB hc hg hm hv (XA.cons he (XA.cons he' XA.nil hs2) hs) hn hdb (by rw [hs, hs2]) (by rw [hs2]; rfl)) fun σ H Q ⟨F0, H0, F, R, p⟩ => ⟨F0, H0, F, R, ?_⟩
  cases m with
  | exc c i => exact p
  | stuck => exact p
  | ok i => cases m' with
    | exc c i => exact p
    | stuck => exact p
    | ok j =>
      intro vs F1 H1 g1 r1
      cases r1 with
      | cons r1 t => cases t with
        | cons r2 t =>
          cases t
          exact ⟨i, j, by rw [r1.int_of, r2.int_of], p _ F1 H1 g1 (.int _)⟩
theorem max2_eq (i j : Int) : (if j > i then j else i) = max2 i j := rfl
end
end Vs
end
section
set_option Elab.async false
set_option linter.all false
set_option maxRecDepth 100000
set_option maxHeartbeats 1000000
/-! Vs4: targets, loops, statements, comprehensions, defs. -/
namespace Vs
open Enc (toD)
open PySem PySem.Spec PyProof.Rows L2

/-! ### which slots are known behind a store -/
def keepAt (ρ : Rs) (ks : List Nat) : Rs := ks.filterMap fun k => ρ[k]?
def okK (ρ : Rs) (is ks : List Nat) : Bool := ks.all fun k => match ρ[k]? with
  | some p => !is.contains p.1
  | none => true
theorem keep_mem {ρ : Rs} {ks : List Nat} {p : Nat × SV} (h : p ∈ keepAt ρ ks) : p ∈ ρ := by
  obtain ⟨k, _, e⟩ := List.mem_filterMap.mp h
  exact List.mem_of_getElem? e
theorem keep_ne {ρ : Rs} {is ks : List Nat} {p : Nat × SV} (h : p ∈ keepAt ρ ks) (o : okK ρ is ks = true) : p.1 ∉ is := by
  obtain ⟨k, hk, e⟩ := List.mem_filterMap.mp h
  have q := List.all_eq_true.mp o k hk
  rw [e] at q
  intro hm
  simp [List.contains_iff_mem, hm] at q
theorem put_w {ρ : Rs} {i : Nat} {sv : SV} {ks : List Nat} (o : okK ρ [i] ks = true) : ∀ p ∈ (i, sv) :: keepAt ρ ks, p = (i, sv) ∨ (p ∈ ρ ∧ p.1 ≠ i) := fun p hp => by
  rcases List.mem_cons.mp hp with h | h
  · exact .inl h
  · exact .inr ⟨keep_mem h, fun e => keep_ne h o (by simp [e])⟩

section
variable {X : Cx} {W : WX} {ρ : Rs} {pos : Pos} {α β γ δ S τ Ω : Type} [Enc α] [Enc β] [Enc γ] [Enc δ]

/-! ### targets -/
def rdG (K : PySem.W.Frag) (n : Nat) (is : List Nat) (ρ : Rs) (d : PyData) (ρ' : Rs) : TG := fun v σ H Q => ∃ F0 H0 F, Rho K n F0 H0 F H σ ρ ∧ Rp K F v d ∧ ∀ σ', Rho K n F0 H0 F H σ' ρ' → (∀ j, j ∉ is → σ'[j]? = σ[j]?) → Q σ' H
def rdGs (K : PySem.W.Frag) (n : Nat) (is : List Nat) (ρ : Rs) (ds : List PyData) (ρ' : Rs) : TGs := fun vs σ H Q => ∃ F0 H0 F, Rho K n F0 H0 F H σ ρ ∧ RpAll K F vs ds ∧ ∀ σ', Rho K n F0 H0 F H σ' ρ' → (∀ j, j ∉ is → σ'[j]? = σ[j]?) → Q σ' H
abbrev XG (X : Cx) (is : List Nat) (ρ : Rs) (tg : Expr) (d : PyData) (ρ' : Rs) : Prop := PG X tg (rdG X.K X.N.length is ρ d ρ')
abbrev XGs (X : Cx) (is : List Nat) (ρ : Rs) (tgs : List Expr) (ds : List PyData) (ρ' : Rs) : Prop := PGs X tgs (rdGs X.K X.N.length is ρ ds ρ')
theorem PG.imp {e : Expr} {t t' : TG} (h : PG X e t) (hi : ∀ v σ H Q, t' v σ H Q → t v σ H Q) : PG X e t' := ⟨fun pins s σ H v u Q I r q => h.run pins s σ H v u Q I r (hi v σ H Q q)⟩
theorem PGs.imp {e : List Expr} {t t' : TGs} (h : PGs X e t) (hi : ∀ v σ H Q, t' v σ H Q → t v σ H Q) : PGs X e t' := ⟨fun pins s σ H v u Q I r q => h.run pins s σ H v u Q I r (hi v σ H Q q)⟩
theorem PG.ex {ι : Type} {e : Expr} {t : ι → TG} (h : ∀ i, PG X e (t i)) : PG X e (fun v σ H Q => ∃ i, t i v σ H Q) := ⟨fun pins s σ H v u Q I r ⟨i, q⟩ => (h i).run pins s σ H v u Q I r q⟩
theorem PGs.ex {ι : Type} {e : List Expr} {t : ι → TGs} (h : ∀ i, PGs X e (t i)) : PGs X e (fun v σ H Q => ∃ i, t i v σ H Q) := ⟨fun pins s σ H v u Q I r ⟨i, q⟩ => (h i).run pins s σ H v u Q I r q⟩
theorem XG.name (i : Nat) (ks : List Nat) {d : PyData} {ρ' : Rs} {nm : Str} (hN : X.N.Nodup) (hi : X.N[i]? = some nm := by rfl) (hρ : ρ' = (i, SV.sh d) :: keepAt ρ ks := by rfl) (ho : okK ρ [i] ks = true := by rfl) (hx : Loc X.env.scope nm := by first | exact Or.inl rfl | exact Or.inr rfl)
    (hf : X.fn nm = true ∨ X.env.scope.names.lookup nm = some .local := by first | exact .inl rfl | exact .inr rfl) : XG X [i] ρ (.Name nm pos) d ρ' := by
  refine PG.imp (pg_name hN hi hx hf) fun v σ H Q ⟨F0, H0, F, R, r, q⟩ => ?_
  refine q _ (R.set (List.getElem?_eq_some_iff.mp hi).1 r (by rw [hρ]; exact put_w ho)) fun j hj => ?_
  rw [List.getElem?_set_ne (by simp at hj; exact Ne.symm hj)]
theorem XGs.nil : XGs X [] ρ [] [] ρ := PGs.imp pgs_nil fun vs σ H Q ⟨F0, H0, F, R, r, q⟩ => by
  cases r
  exact ⟨rfl, q σ R fun _ _ => rfl⟩
theorem XGs.cons {is is' : List Nat} {ρ1 ρ' : Rs} {e : Expr} {es : List Expr} {d : PyData} {ds : List PyData} (h : XG X is ρ e d ρ1) (hs : XGs X is' ρ1 es ds ρ')
    (hq : (assignEach (e :: es) X.env).map (·.2) = assign e X.env :: (assignEach es X.env).map (·.2) := by rfl) : XGs X (is ++ is') ρ (e :: es) (d :: ds) ρ' := by
  refine PGs.imp (pgs_cons h hs hq) fun vs σ H Q ⟨F0, H0, F, R, r, q⟩ => ?_
  cases r with
  | cons r rr => exact ⟨_, _, rfl, F0, H0, F, R, r, fun σ1 R1 k1 => ⟨F0, H0, F, R1, rr, fun σ2 R2 k2 => q σ2 R2 fun j hj => by
      rw [List.mem_append, not_or] at hj
      exact (k2 j hj.2).trans (k1 j hj.1)⟩⟩
theorem XG.tup {is : List Nat} {k : Nat} {es : List Expr} {ds : List PyData} {ρ' : Rs} (hc : X.calm = true) (h : XGs X is ρ es ds ρ') (hn : (assignEach es X.env).length = ds.length := by rfl) (hst : (assignEach es X.env).findIdx? (·.1) = none := by rfl) :
    XG X is ρ (.Tuple es k pos) (.tuple ds) ρ' := by
  refine PG.imp (pg_tup hc h hn hst) fun v σ H Q ⟨F0, H0, F, R, r, q⟩ => ?_
  obtain ⟨a, xs, rfl, h1, h2⟩ := r.tup_of
  exact ⟨a, xs, rfl, sub_seqT R.fh h1, h2.length, F0, H0, F, R, h2, q⟩
theorem XG.weak {is : List Nat} {tg : Expr} {d : PyData} {ρ0 ρ' : Rs} (h : XG X is ρ0 tg d ρ') (w : ∀ p ∈ ρ0, p ∈ ρ) : XG X is ρ tg d ρ' := PG.imp h fun v σ H Q ⟨F0, H0, F, R, r, q⟩ => ⟨F0, H0, F, R.weak w, r, q⟩

/-! ### what is walked -/
structure ItOk (K : PySem.W.Frag) (J : It) (F : Hp) (ds : List PyData) : Prop where
  go : ∀ i F1 H1, Sub F F1 → Sub F1 H1 → i < ds.length → J.go i H1
  yld : ∀ i F1 H1 d x H2, Sub F F1 → Sub F1 H1 → ds[i]? = some d → J.yld i H1 x H2 → ∃ F2, Grow F1 H1 F2 H2 ∧ Rp K F2 x d
  stop : ∀ i F1 H1, Sub F F1 → Sub F1 H1 → ds.length ≤ i → J.stop i H1
def PostI (K : PySem.W.Frag) (W : WX) (F H : Hp) (m : Res (List PyData)) (R : It → Hp → Prop) : Prop := match m with
  | .ok ds => ∀ J F' H', Grow F H F' H' → ItOk K J F' ds → ds.length ≤ sizeLine → R J H'
  | .exc c i => ∀ dx F' H' σ', Grow F H F' H' → XdAt H' dx i → H dx = none → W (cv K c) (some dx) σ' H'
  | .stuck => False
def rdI (K : PySem.W.Frag) (n : Nat) (W : WX) (ρ : Rs) (m : Res (List PyData)) : TI := fun σ H R => ∃ F0 H0 F, Rho K n F0 H0 F H σ ρ ∧ PostI K W F H m R
theorem PE.len {e : Expr} {t : TE} (h : PE X e t) : PE X e (fun σ H Q => t σ H fun v H1 => (∀ a xs, H1 a = some (.lst xs) → xs.length ≤ sizeLine) → Q v H1) :=
  ⟨fun pins s σ H Q I q => thn (h.run pins s σ H _ I q) fun u s1 ⟨v, H1, I1, r, q1⟩ => ⟨v, H1, I1, r, q1 fun a xs e => (I1.hok a _ e).1⟩⟩
abbrev XI (X : Cx) (W : WX) (ρ : Rs) {α : Type} [Enc α] (tg iter : Expr) (m : Res (List α)) : Prop := PI X tg iter (rdI X.K X.N.length W ρ (m.map fun xs => xs.map toD))
theorem PI.imp {tg iter : Expr} {t t' : TI} (h : PI X tg iter t) (hi : ∀ σ H R, t' σ H R → t σ H R) : PI X tg iter t' := ⟨fun pins s σ H R I q => h.run pins s σ H R I (hi σ H R q)⟩
theorem XI.eq {tg iter : Expr} {m m' : Res (List α)} (h : XI X W ρ tg iter m) (q : m' = m) : XI X W ρ tg iter m' := by rw [q]; exact h
/-- a list's length is within the line -/
theorem len_list {K : PySem.W.Frag} {F H : Hp} {a : Addr} {xs : List V} {pins : List (Addr × Obj)} {σ : St} {s : Shared} (I : Inv X pins σ H s) (h : H a = some (.lst xs)) : xs.length ≤ sizeLine := (I.hok a _ h).1
theorem it_list {K : PySem.W.Frag} {F : Hp} {a : Addr} {xs : List V} {ds : List PyData} (e : F a = some (.lst xs)) (r : RpAll K F xs ds) : ItOk K (Itl K a) F ds := by
  refine ⟨fun i F1 H1 s1 s2 hi => ?_, fun i F1 H1 d x H2 s1 s2 hd hy => ?_, fun i F1 H1 s1 s2 hi => ?_⟩
  · have hi' : i < xs.length := by rw [r.length]; exact hi
    exact ⟨xs, xs[i], .inl (.inl (s2 _ _ (s1 _ _ e))), by simp [hi']⟩
  · obtain ⟨rfl, hx⟩ := hy
    have hx' := hx xs (.inl (.inl (s2 _ _ (s1 _ _ e))))
    obtain ⟨v, h1, h2⟩ := r.get hd
    rw [hx'] at h1; cases h1
    exact ⟨F1, .refl s2, h2.sub s1⟩
  · exact ⟨xs, .inl (.inl (s2 _ _ (s1 _ _ e))), by rw [r.length]; exact hi⟩
theorem it_tup {K : PySem.W.Frag} {F : Hp} {a : Addr} {xs : List V} {ds : List PyData} (e : SqT K F a xs) (r : RpAll K F xs ds) (un : ∀ F1 H1 ys, Sub F F1 → Sub F1 H1 → SqT K H1 a ys → ys = xs) : ItOk K (Itt K a) F ds := by
  refine ⟨fun i F1 H1 s1 s2 hi => ?_, fun i F1 H1 d x H2 s1 s2 hd hy => ?_, fun i F1 H1 s1 s2 hi => ?_⟩
  · have hi' : i < xs.length := by rw [r.length]; exact hi
    exact ⟨xs, xs[i], sub_seqT s2 (sub_seqT s1 e), by simp [hi']⟩
  · obtain ⟨rfl, hx⟩ := hy
    have hx' := hx xs (sub_seqT s2 (sub_seqT s1 e))
    obtain ⟨v, h1, h2⟩ := r.get hd
    rw [hx'] at h1; cases h1
    exact ⟨F1, .refl s2, h2.sub s1⟩
  · exact ⟨xs, sub_seqT s2 (sub_seqT s1 e), by rw [r.length]; exact hi⟩
theorem XI.list {tg e : Expr} {m : Res (List α)} (he : XV X W ρ e m) : XI X W ρ tg e m := by
  refine ⟨fun pins s σ H R I ⟨F0, H0, F, Rh, p⟩ => ?_⟩
  cases m with
  | exc c i => exact (pi_list (tg := tg) he).run pins s σ H R I ⟨F0, H0, F, Rh, p⟩
  | stuck => exact p.elim
  | ok xs =>
    -- the length is read off the state behind e
    refine thn (he.run pins s σ H (fun v H1 => ∃ a ys F1, v = .ref a ∧ F1 a = some (.lst ys) ∧ RpAll X.K F1 ys (xs.map toD) ∧ Grow F H F1 H1) I ⟨F0, H0, F, Rh, fun v F' H' g r => by
      obtain ⟨a, ys, e1, e2, e3⟩ := Rp.lst_of r
      exact ⟨a, ys, F', e1, e2, e3, g⟩⟩) fun u s1 ⟨v, H1, I1, rv, a, ys, F1, ev, ha, r, g⟩ => ?_
    subst ev
    obtain rfl : u = Value.ref a := rv
    obtain ⟨its, rv, pl, hz⟩ := I1.list (.inl (.inl (g.fh _ _ ha)))
    refine wpAny_pyIter_list pl.isList ?_
    refine ⟨s1.heap.objs.size, [s1.heap.objs.size], _, _, H1, rfl, I1.kept (t' := s1.toks) fun b o e => Heap.get?_push_of_some _ e, turn_list a _, ⟨_, Heap.get?_push_size _ rfl, rfl, rfl⟩, fun b hb => ?_, p _ F1 H1 g (it_list ha r) (by rw [← r.length]; exact hz)⟩
    have e : b = s1.heap.objs.size := by simpa using hb
    subst e
    exact I1.fpOk (Nat.le_refl _) (I1.hok.fresh (Nat.le_refl _))
/-- a, a + 1, .. -/
theorem it_range {K : PySem.W.Frag} {F : Hp} (lo hi : Int) : ItOk K (Itr lo (hi - lo).toNat) F ((rangeL lo hi).map toD) := by
  have hl : ((rangeL lo hi).map (toD : Int → PyData)).length = (hi - lo).toNat := by unfold rangeL; simp
  refine ⟨fun i F1 H1 s1 s2 hi => by rw [hl] at hi; exact hi, fun i F1 H1 d x H2 s1 s2 hd hy => ?_, fun i F1 H1 s1 s2 hi => by rw [hl] at hi; exact hi⟩
  obtain ⟨rfl, rfl⟩ := hy
  refine ⟨F1, .refl s2, ?_⟩
  have hlt := (List.getElem?_eq_some_iff.mp hd).1
  rw [hl] at hlt
  have e : ((rangeL lo hi).map (toD : Int → PyData))[i]? = some (.int (lo + (i : Int))) := by
    unfold rangeL
    simp only [List.map_map, List.getElem?_map, List.getElem?_range hlt, Option.map_some]
    rfl
  rw [e] at hd; cases hd
  exact .int _
theorem XI.range2 {tg a b : Expr} {p : Pos} {ma mb : Res Int} (hm : X.mg "range" = none) (ha : XV X W ρ a ma) (hb : XV X W ρ b mb) (hg : Gl X "range" := by rfl) (hs : starEach [a, b] X.env = [(false, eval a X.env), (false, eval b X.env)] := by rfl) (hs2 : starEach [b] X.env = [(false, eval b X.env)] := by rfl) : XI X W ρ tg (.Call (.Name "range" p) [a, b] [] pos) (do
    let x ← ma
    let y ← mb
    rangeR x y) := by
  refine PI.imp (pi_range2 hg hm (XA.cons ha (XA.cons hb XA.nil hs2) (by rw [hs, hs2])) hs hs2) fun σ H R ⟨F0, H0, F, Rh, p⟩ => ⟨F0, H0, F, Rh, ?_⟩
  cases ma with
  | exc c i => exact p
  | stuck => exact p
  | ok x => cases mb with
    | exc c i => exact p
    | stuck => exact p
    | ok y =>
      intro vs F1 H1 g1 r1
      have p1 : PostI X.K W F H ((rangeR x y).map (fun xs => xs.map toD)) R := p
      unfold rangeR at p1
      by_cases h : -(2 ^ 62) ≤ x ∧ x < 2 ^ 62 ∧ -(2 ^ 62) ≤ y ∧ y < 2 ^ 62 ∧ (y - x).toNat ≤ lim
      · rw [if_pos h] at p1
        obtain ⟨h1, h2, h3, h4, h5⟩ := h
        cases r1 with
        | cons r1 t => cases t with
          | cons r2 t =>
            cases t
            refine ⟨x, y, by rw [r1.int_of, r2.int_of], ⟨h1, h2, h3, h4⟩, p1 _ F1 H1 g1 (it_range x y) ?_⟩
            unfold rangeL
            simp only [List.length_map, List.length_range]
            rw [← lim_line]; exact h5
      · rw [if_neg h] at p1
        exact p1.elim
theorem XI.range1 {tg a : Expr} {p : Pos} {ma : Res Int} (hm : X.mg "range" = none) (ha : XV X W ρ a ma) (hg : Gl X "range" := by rfl) (hs : starEach [a] X.env = [(false, eval a X.env)] := by rfl) : XI X W ρ tg (.Call (.Name "range" p) [a] [] pos) (do
    let x ← ma
    rangeR 0 x) := by
  refine PI.imp (pi_range1 hg hm (XA.cons ha XA.nil hs) hs) fun σ H R ⟨F0, H0, F, Rh, p⟩ => ⟨F0, H0, F, Rh, ?_⟩
  cases ma with
  | exc c i => exact p
  | stuck => exact p
  | ok x =>
    intro vs F1 H1 g1 r1
    have p1 : PostI X.K W F H ((rangeR 0 x).map (fun xs => xs.map toD)) R := p
    unfold rangeR at p1
    by_cases h : -(2 ^ 62) ≤ (0 : Int) ∧ (0 : Int) < 2 ^ 62 ∧ -(2 ^ 62) ≤ x ∧ x < 2 ^ 62 ∧ (x - 0).toNat ≤ lim
    · rw [if_pos h] at p1
      obtain ⟨h1, h2, h3, h4, h5⟩ := h
      cases r1 with
      | cons r1 t =>
        cases t
        refine ⟨x, by rw [r1.int_of], h3, h4, ?_⟩
        have e := it_range (K := X.K) (F := F1) 0 x
        rw [Int.sub_zero] at e h5
        refine p1 _ F1 H1 g1 e ?_
        unfold rangeL
        simp only [List.length_map, List.length_range, Int.sub_zero]
        rw [← lim_line]; exact h5
    · rw [if_neg h] at p1
      exact p1.elim
theorem it_enum {K : PySem.W.Frag} {F : Hp} {a : Addr} {vs : List V} {xs : List α} (e : F a = some (.lst vs)) (r : RpAll K F vs (xs.map toD)) : ItOk K (Ite K a) F ((enumL xs).map toD) := by
  have hl : ((enumL xs).map (toD : Int × α → PyData)).length = vs.length := by unfold enumL; rw [r.length]; simp
  refine ⟨fun i F1 H1 s1 s2 hi => ?_, fun i F1 H1 d x H2 s1 s2 hd hy => ?_, fun i F1 H1 s1 s2 hi => ?_⟩
  · rw [hl] at hi
    exact ⟨vs, vs[i], .inl (.inl (s2 _ _ (s1 _ _ e))), by simp [hi]⟩
  · obtain ⟨T, v, rfl, nT, rfl, hx⟩ := hy
    have hx' := hx vs (.inl (.inl (s2 _ _ (s1 _ _ e))))
    obtain ⟨d', h1, h2⟩ := r.get' hx'
    refine ⟨_, .new s2 nT, ?_⟩
    have hi := (List.getElem?_eq_some_iff.mp hx').1
    have hi2 : i < xs.length := by have := r.length; rw [List.length_map] at this; omega
    have e1 : ((enumL xs).map (toD : Int × α → PyData))[i]? = some (.tuple [.int (i : Nat), toD xs[i]]) := by
      unfold enumL
      simp only [List.map_map, List.getElem?_map, List.getElem?_zipIdx, List.getElem?_eq_getElem hi2, Option.map_some, Nat.zero_add]
      rfl
    rw [e1] at hd; cases hd
    have e2 : d' = toD xs[i] := by
      rw [List.getElem?_map, List.getElem?_eq_getElem hi2] at h1
      exact (Option.some.inj h1).symm
    rw [e2] at h2
    exact .tup upd_same (.cons (.int _) (.cons ((h2.sub s1).sub (sub_upd (sub_free s2 nT))) .nil))
  · rw [hl] at hi
    exact ⟨vs, .inl (.inl (s2 _ _ (s1 _ _ e))), hi⟩
/-- a source given by one frozen list in its argument -/
theorem XI.of1 {tg iter : Expr} {e : Expr} {J : Addr → It} {m : Res (List α)} {f : List α → List β} (hl : ∀ xs : List α, (f xs).length ≤ xs.length) (he : XV X W ρ e m)
    (h : ∀ t : TE, PE X e t → PI X tg iter (fun σ H R => t σ H fun v H1 => ∃ a ys, [v] = [.ref a] ∧ SqL X.K H1 a ys ∧ R (J a) H1))
    (it : ∀ F a vs (xs : List α), F a = some (.lst vs) → RpAll X.K F vs (xs.map toD) → ItOk X.K (J a) F ((f xs).map toD)) : XI X W ρ tg iter (do
    let xs ← m
    .ok (f xs)) := by
  refine PI.imp (h _ (PE.len he)) fun σ H R ⟨F0, H0, F, Rh, p⟩ => ⟨F0, H0, F, Rh, ?_⟩
  cases m with
  | exc c i => exact p
  | stuck => exact p
  | ok xs =>
    intro v F1 H1 g1 r1 hz
    obtain ⟨a, ys, rfl, e1, e2⟩ := Rp.lst_of r1
    refine ⟨a, ys, rfl, .inl (.inl (g1.fh _ _ e1)), p _ F1 H1 g1 (it F1 a ys xs e1 e2) ?_⟩
    rw [List.length_map]
    have h1 := hl xs
    have h2 := e2.length
    have h3 := hz a ys (g1.fh _ _ e1)
    rw [List.length_map] at h2
    omega
theorem XI.enum {e : Expr} {p tpos : Pos} {elts : List Expr} {kk : Nat} {m : Res (List α)} (hm : X.mg "enumerate" = none) (he : XV X W ρ e m) (hg : Gl X "enumerate" := by rfl) (hs : starEach [e] X.env = [(false, eval e X.env)] := by rfl) :
    XI X W ρ (.Tuple elts kk tpos) (.Call (.Name "enumerate" p) [e] [] pos) (do
    let xs ← m
    .ok (enumL xs)) :=
  XI.of1 (J := Ite X.K) (fun xs => by unfold enumL; simp) he (fun t ht => pi_enum hg hm (pa_cons ht pa_nil hs) hs) (fun F a vs xs => it_enum)

/-! ### statements -/
theorem XB.nil {m : Res S} {s : S} {ρ' : S → Rs} (w : ∀ p ∈ ρ' s, p ∈ ρ) : XB X W ρ [] (.ok s) (fun s => .nx (ρ' s)) :=
  PSs.imp pss_nil fun D σ H ⟨F0, H0, F, R, p⟩ => p σ F H (R.weak w) fun _ _ e => e
/-- what holds of what is bound -/
def ExB (X : Cx) (W : WX) (ι : Type) (ρ' : ι → Rs) (mr : ι → Res τ) (fin : τ → Fi) : TS := fun D σ H => ∃ x, rdS X.K X.N.length W (ρ' x) (mr x) fin D σ H
/-- name = e -/
theorem XB.asg (i : Nat) (ks : List Nat) {nm : Str} {e : Expr} {p1 : Pos} {rest : List Stmt} {me : Res α} {mr : α → Res τ} {fin : τ → Fi} (ρ' : α → Rs) (hN : X.N.Nodup) (he : XV X W ρ e me) (hr : ∀ x, XB X W (ρ' x) rest (mr x) fin)
    (hρ : ∀ x, ρ' x = (i, SV.sh (toD x)) :: keepAt ρ ks := by intro _; rfl) (ho : okK ρ [i] ks = true := by rfl) (hi : X.N[i]? = some nm := by rfl) (hx : Loc X.env.scope nm := by first | exact Or.inl rfl | exact Or.inr rfl)
    (hs : swapsWith e (some (.Name nm p1)) pos.line X.env = pure false := by rfl) (hf : X.fn nm = true ∨ X.env.scope.names.lookup nm = some .local := by first | exact .inl rfl | exact .inr rfl) :
    XB X W ρ (.Assign [.Name nm p1] e pos :: rest) (do
    let x ← me
    mr x) fin := by
  refine PSs.imp (pss_cons (ps_set hN hi hx he hs hf) (PSs.ex hr)) fun D σ H ⟨F0, H0, F, R, p⟩ => ?_
  refine ⟨F0, H0, F, R, ?_⟩
  have q := PostS.bind R p
  cases me with
  | exc c i => exact q
  | stuck => exact q
  | ok x =>
    intro v F1 H1 g r
    refine ⟨x, F0, H0, F1, ?_, PostS.sub g.f p⟩
    exact (R.grow g).set (List.getElem?_eq_some_iff.mp hi).1 r (by rw [hρ]; exact put_w ho)
/-- name = e, a new list or dict that this name alone holds -/
theorem XB.asgO (i : Nat) (ks : List Nat) {nm : Str} {e : Expr} {p1 : Pos} {rest : List Stmt} {me : Res α} {mr : α → Res τ} {fin : τ → Fi} (ρ' : α → Rs) (hN : X.N.Nodup) (he : XF X W ρ e me) (hr : ∀ x, XB X W (ρ' x) rest (mr x) fin)
    (hρ : ∀ x, ρ' x = (i, SV.ow (toD x)) :: keepAt ρ ks := by intro _; rfl) (ho : okK ρ [i] ks = true := by rfl) (hi : X.N[i]? = some nm := by rfl) (hx : Loc X.env.scope nm := by first | exact Or.inl rfl | exact Or.inr rfl)
    (hs : swapsWith e (some (.Name nm p1)) pos.line X.env = pure false := by rfl) (hf : X.fn nm = true ∨ X.env.scope.names.lookup nm = some .local := by first | exact .inl rfl | exact .inr rfl) :
    XB X W ρ (.Assign [.Name nm p1] e pos :: rest) (do
    let x ← me
    mr x) fin := by
  refine PSs.imp (pss_cons (ps_set hN hi hx he hs hf) (PSs.ex hr)) fun D σ H ⟨F0, H0, F, R, p⟩ => ?_
  refine ⟨F0, H0, F, R, ?_⟩
  have q := PostS.bindF R p
  cases me with
  | exc c i => exact q
  | stuck => exact q
  | ok x =>
    intro a F1 H1 g z c
    refine ⟨x, F0, H0, F1, ?_, PostS.sub g.f p⟩
    refine (R.grow g).setO (List.getElem?_eq_some_iff.mp hi).1 c (sub_free R.base.h z) (fun j e m hj q => ?_) (by rw [hρ]; exact put_w ho)
    obtain ⟨b, e1, c1, _⟩ := R.ow j e m
    rw [q] at e1; cases e1
    exact c1.there z
/-- what slot i owns is frozen from here on (nothing is done) -/
theorem XB.freeze (k : Nat) (i : Nat) (ks : List Nat) {x : α} {sts : List Stmt} {m : Res τ} {fin : τ → Fi} (ρ' : Rs) (hk : ρ[k]? = some (i, SV.ow (toD x))) (hr : XB X W ρ' sts m fin)
    (hρ : ρ' = (i, SV.sh (toD x)) :: keepAt ρ ks := by rfl) (ho : okK ρ [i] ks = true := by rfl) : XB X W ρ sts m fin := by
  refine ⟨fun pins s σ H D I ⟨F0, H0, F, R, p⟩ => ?_⟩
  have hm := List.mem_of_getElem? hk
  obtain ⟨a, ea, c, z⟩ := R.ow i _ hm
  have w : ∀ q ∈ ρ', q = (i, SV.sh (toD x)) ∨ (q ∈ ρ ∧ q.1 ≠ i) := by rw [hρ]; exact put_w ho
  have c0 := c
  obtain ⟨zf, ⟨xs, ds, e1, r, e2⟩ | ⟨kvs, ds, e1, r, e2⟩ | ⟨kvs, ds, e1, r, e2⟩⟩ := c0
  · rw [e2] at hm w
    exact hr.run pins s σ H D I ⟨F0, H0, _, R.freezeL hm ea e1 w, PostS.sub (sub_upd zf) p⟩
  · obtain ⟨od, I2⟩ := I.lock e1 trivial
    have nz : ∀ b u, H0 b = some u → b ≠ a := fun b u e q => by rw [q, z] at e; cases e
    refine hr.run pins s σ _ D I2 ⟨F0, H0, upd F a (.frz od (.dK kvs)), ?_, PostS.sub (sub_upd zf) p⟩
    rw [e2] at hm w
    refine Rho.freezeD R hm ea w (u := .frz od (.dK kvs)) ?_ zf z
    exact .dk upd_same (r.sub (sub_upd zf))
  · obtain ⟨od, I2⟩ := I.lock e1 trivial
    refine hr.run pins s σ _ D I2 ⟨F0, H0, upd F a (.frz od (.dT kvs)), ?_, PostS.sub (sub_upd zf) p⟩
    rw [e2] at hm w
    refine Rho.freezeD R hm ea w (u := .frz od (.dT kvs)) ?_ zf z
    exact .dt upd_same (r.sub (sub_upd zf))
/-- e as a statement -/
theorem XB.expr {e : Expr} {rest : List Stmt} {me : Res α} {mr : Res τ} {fin : τ → Fi} (he : XV X W ρ e me) (hr : XB X W ρ rest mr fin) (hs : swapsWith e none pos.line X.env = pure false := by rfl) : XB X W ρ (.Expr e pos :: rest) (do
    let _ ← me
    mr) fin := by
  refine PSs.imp (pss_cons (ps_expr he hs) hr) fun D σ H ⟨F0, H0, F, R, p⟩ => ⟨F0, H0, F, R, ?_⟩
  have q := PostS.bind R p
  cases me with
  | exc c i => exact q
  | stuck => exact q
  | ok x => exact fun v F1 H1 g r => ⟨F0, H0, F1, R.grow g, PostS.sub g.f p⟩
/-- return e -/
theorem XB.ret {e : Expr} {rest : List Stmt} {me : Res α} (he : XV X W ρ e me) : XB X W ρ (.Return (some e) pos :: rest) me (fun b => .rt (toD b)) := by
  refine PSs.imp (pss_cons (ps_ret he) (pss_never (sts := rest))) fun D σ H ⟨F0, H0, F, R, p⟩ => ⟨F0, H0, F, R, ?_⟩
  cases me with
  | exc c i => exact excG R.base p
  | stuck => exact p
  | ok x => exact fun v F1 H1 g r => p v F1 H1 (R.base.trans g) r
/-- return e, within a block that may go on -/
theorem XB.retC {e : Expr} {rest : List Stmt} {me : Res α} {fin : τ → Fi} {o : α → τ} (ho : ∀ a, fin (o a) = .rt (toD a)) (he : XV X W ρ e me) : XB X W ρ (.Return (some e) pos :: rest) (do
    let x ← me
    .ok (o x)) fin := by
  refine PSs.imp (XB.ret (rest := rest) he) fun D σ H ⟨F0, H0, F, R, p⟩ => ⟨F0, H0, F, R, ?_⟩
  cases me with
  | exc c i => exact p
  | stuck => exact p
  | ok x =>
    have p' : (match fin (o x) with
      | .nx ρ' => ∀ σ' F' H', Rho X.K X.N.length F0 H0 F' H' σ' ρ' → Sub F F' → D.nx σ' H'
      | .rt d => ∀ v F' H', Grow F0 H0 F' H' → Rp X.K F' v d → D.rt v H'
      | .bk ρ' => ∀ σ' F' H', Rho X.K X.N.length F0 H0 F' H' σ' ρ' → Sub F F' → D.bk σ' H') := p
    rw [ho x] at p'
    exact p'
theorem XB.brk {rest : List Stmt} {fin : τ → Fi} {t : τ} {ρ' : Rs} (ht : fin t = .bk ρ') (w : ∀ p ∈ ρ', p ∈ ρ) : XB X W ρ (.Break pos :: rest) (.ok t) fin := by
  refine PSs.imp (pss_cons ps_break (pss_never (sts := rest))) fun D σ H ⟨F0, H0, F, R, p⟩ => ?_
  have p' : (match fin t with
    | .nx ρ' => ∀ σ' F' H', Rho X.K X.N.length F0 H0 F' H' σ' ρ' → Sub F F' → D.nx σ' H'
    | .rt d => ∀ v F' H', Grow F0 H0 F' H' → Rp X.K F' v d → D.rt v H'
    | .bk ρ' => ∀ σ' F' H', Rho X.K X.N.length F0 H0 F' H' σ' ρ' → Sub F F' → D.bk σ' H') := p
  rw [ht] at p'
  exact p' σ F H (R.weak w) fun _ _ e => e
theorem XB.eq {sts : List Stmt} {m m' : Res τ} {fin : τ → Fi} (h : XB X W ρ sts m fin) (q : m' = m) : XB X W ρ sts m' fin := by rw [q]; exact h
end
end Vs
end
section
set_option Elab.async false
set_option linter.all false
set_option maxRecDepth 100000
set_option maxHeartbeats 1000000
/-! Vs5: append, if, for, while, comprehensions, defs and calls. -/
namespace Vs
open Enc (toD)
open PySem PySem.Spec PyProof.Rows L2

section
variable {X : Cx} {W : WX} {ρ : Rs} {pos : Pos} {α β γ δ S τ Ω : Type} [Enc α] [Enc β] [Enc γ] [Enc δ]
theorem own_get {K : PySem.W.Frag} {n k i : Nat} {F0 H0 F H : Hp} {σ : St} {xs : List α} (R : Rho K n F0 H0 F H σ ρ) (h : ρ[k]? = some (i, SV.ow (toD xs))) : ∃ a vs, σ[i]? = some (some (.ref a)) ∧ H a = some (.lst vs) ∧ RpAll K F vs (xs.map toD) ∧ F a = none ∧ H0 a = none ∧ (i, SV.ow (toD xs)) ∈ ρ := by
  have hm := List.mem_of_getElem? h
  obtain ⟨a, ea, c, z⟩ := R.ow i _ hm
  obtain ⟨zf, ⟨vs, ds, e1, r, e2⟩ | ⟨_, _, _, _, e2⟩ | ⟨_, _, _, _, e2⟩⟩ := c
  · cases e2
    exact ⟨a, vs, ea, e1, r, zf, z, hm⟩
  · cases e2
  · cases e2
/-- xs.append(e), xs a slot's own list -/
theorem XB.append (k i : Nat) (ks : List Nat) {nm : Str} {e : Expr} {p1 p2 p3 : Pos} {xs : List α} {rest : List Stmt} {me : Res α} {mr : List α → Res τ} {fin : τ → Fi} (ρ' : List α → Rs) (hk : ρ[k]? = some (i, SV.ow (toD xs))) (he : XV X W ρ e me) (hr : ∀ ys, XB X W (ρ' ys) rest (mr ys) fin)
    (hρ : ∀ ys, ρ' ys = (i, SV.ow (toD ys)) :: keepAt ρ ks := by intro _; rfl) (ho : okK ρ [i] ks = true := by rfl) (hN : X.N[i]? = some nm := by rfl) (hv : Vis X.env.scope nm := by first | exact Or.inl rfl | exact Or.inr (Or.inl rfl) | exact Or.inr (Or.inr rfl))
    (hd : (nm == ("__debug__" : Str)) = false := by decide) (hcd : (nm == ("__classdict__" : Str)) = false := by decide) (hs : starEach [e] X.env = [(false, eval e X.env)] := by rfl)
    (hb : attributeBase (.Name nm p1) ("append" : Str) X.env (eval (.Name nm p1) X.env) = eval (.Name nm p1) X.env := by rfl) (hl : (p2.endLine == p3.line) = true := by rfl) (hsw : swapsWith (.Call (.Attribute (.Name nm p1) ("append" : Str) p2) [e] [] p3) none pos.line X.env = pure false := by rfl) :
    XB X W ρ (.Expr (.Call (.Attribute (.Name nm p1) ("append" : Str) p2) [e] [] p3) pos :: rest) (do
    let y ← me
    let ys ← pushL xs y
    mr ys) fin := by
  refine PSs.imp (pss_cons (ps_expr (pe_bm PySem.F.plainAttrs_list PySem.F.slot_list_append PySem.F.type_list_append mt_append (pe_var hN hv hd hcd) (pa_cons he pa_nil hs) (hline := hl) (hfew := by rw [hs]; rfl) (hs := hs)) hsw) (PSs.ex hr)) fun D σ H ⟨F0, H0, F, R, p⟩ => ?_
  obtain ⟨a, vs, ea, e1, r, zf, z, hm⟩ := own_get R hk
  refine ⟨.ref a, ea, .inl ⟨rfl, vs, .inl (.inl e1)⟩, F0, H0, F, R, ?_⟩
  have q := PostS.bind R p
  cases me with
  | exc c i => exact q
  | stuck => exact q
  | ok y =>
    intro v F1 H1 g rv
    have p1 : PostS X.K X.N.length W F0 H0 F (pushL xs y >>= mr) fin D := p
    unfold pushL mkL at p1
    split at p1
    · rename_i hlen
      have e1' := g.h _ _ e1
      have zf' : F1 a = none := by rw [g.fn a (by rw [e1]; exact .lst)]; exact zf
      refine ⟨a, vs, v, rfl, rfl, e1', ?_, xs ++ [y], F0, H0, F1, ?_, PostS.sub g.f p1⟩
      · have h2 := r.length
        rw [List.length_map] at h2
        rw [List.length_append, List.length_singleton] at hlen
        rw [h2, ← lim_line]; omega
      · refine (R.grow g).mut hm ea (o := .lst (vs ++ [v])) ⟨zf', .inl ⟨vs ++ [v], _, upd_same, (r.sub g.f).append (.cons rv .nil), ?_⟩⟩ (by rw [hρ]; exact put_w ho)
        show toD (xs ++ [y]) = .list _
        rw [show (xs.map toD ++ [toD y]) = (xs ++ [y]).map toD by simp]; rfl
    · exact p1.elim
/-- xs[i] = e, xs a slot's own list -/
theorem XB.setIdx (k i : Nat) (ks : List Nat) {nm : Str} {e ix : Expr} {p1 p2 : Pos} {xs : List α} {rest : List Stmt} {me : Res α} {mi : Res Int} {mr : List α → Res τ} {fin : τ → Fi} (ρ' : List α → Rs) (hk : ρ[k]? = some (i, SV.ow (toD xs))) (he : XV X W ρ e me) (hi : XV X W ρ ix mi) (hr : ∀ ys, XB X W (ρ' ys) rest (mr ys) fin)
    (hρ : ∀ ys, ρ' ys = (i, SV.ow (toD ys)) :: keepAt ρ ks := by intro _; rfl) (ho : okK ρ [i] ks = true := by rfl) (hN : X.N[i]? = some nm := by rfl) (hv : Vis X.env.scope nm := by first | exact Or.inl rfl | exact Or.inr (Or.inl rfl) | exact Or.inr (Or.inr rfl))
    (hd : (nm == ("__debug__" : Str)) = false := by decide) (hcd : (nm == ("__classdict__" : Str)) = false := by decide)
    (ha : ∀ v, assign (.Subscript (.Name nm p1) ix p2) X.env v = (do
      let ov ← holding [v] (eval (.Name nm p1) X.env)
      let iv ← holding [v, ov] (eval ix X.env)
      standAt p2
      holding [v, ov, iv] (setItem ov iv v)
      release [v, ov, iv] []) := by intro _; rfl)
    (hs : swapsWithSole [.Subscript (.Name nm p1) ix p2] e pos.line X.env = pure false := by rfl) (hw : swappedStores [.Subscript (.Name nm p1) ix p2] e X.env = pure none := by rfl)
    (h1 : (assignEach [.Subscript (.Name nm p1) ix p2] X.env).map (·.2) = [assign (.Subscript (.Name nm p1) ix p2) X.env] := by rfl) :
    XB X W ρ (.Assign [.Subscript (.Name nm p1) ix p2] e pos :: rest) (do
    let y ← me
    let j ← mi
    let ys ← setL xs j y
    mr ys) fin := by
  refine PSs.imp (pss_cons (ps_asg he (pg_sub (pe_var hN hv hd hcd) hi set_list ha) hs hw h1) (PSs.ex hr)) fun D σ H ⟨F0, H0, F, R, p⟩ => ⟨F0, H0, F, R, ?_⟩
  obtain ⟨a, vs, ea, e1, r, zf, z, hm⟩ := own_get R hk
  have q := PostS.bind R p
  cases me with
  | exc c i => exact q
  | stuck => exact q
  | ok y =>
    intro v F1 H1 g rv
    refine ⟨.ref a, ea, F0, H0, F1, R.grow g, ?_⟩
    have p1 : PostS X.K X.N.length W F0 H0 F1 (mi >>= fun j => setL xs j y >>= mr) fin D := PostS.sub g.f p
    have q1 := PostS.bind (R.grow g) p1
    cases mi with
    | exc c i => exact q1
    | stuck => exact q1
    | ok j =>
      intro u F2 H2 g2 ru
      have p2 : PostS X.K X.N.length W F0 H0 F2 (setL xs j y >>= mr) fin D := PostS.sub g2.f p1
      unfold setL at p2
      cases ei : idx xs.length j with
      | none => rw [ei] at p2; exact p2.elim
      | some m =>
        rw [ei] at p2
        have gg := g.trans g2
        have hl := r.length
        rw [List.length_map] at hl
        have zf' : F2 a = none := by rw [gg.fn a (by rw [e1]; exact .lst)]; exact zf
        refine ⟨a, vs, j, m, rfl, ru.int_of, gg.h _ _ e1, by rw [hl]; exact ei, xs.set m y, F0, H0, F2, ?_, p2⟩
        refine (R.grow gg).mut hm ea (o := .lst (vs.set m v)) ⟨zf', .inl ⟨vs.set m v, _, upd_same, RpAll.set (rv.sub g2.f) m (r.sub gg.f), ?_⟩⟩ (by rw [hρ]; exact put_w ho)
        show toD (xs.set m y) = .list _
        rw [← List.map_set]; rfl

/-! ### if -/
/-- if c: A (both ways end the block's own way) -/
theorem XB.ite {c : Expr} {A B : List Stmt} {mc : Res Bool} {mA mB : Res τ} {fin : τ → Fi} (hc : XT X W ρ c mc) (hA : XB X W ρ A mA fin) (hB : XB X W ρ B mB fin) : XB X W ρ [.If c A B pos] (do
    let b ← mc
    if b then mA else mB) fin := by
  refine PSs.imp (pss_one (ps_if hc hA hB)) fun D σ H ⟨F0, H0, F, R, p⟩ => ⟨F0, H0, F, R, ?_⟩
  have q := PostS.bindT R p
  cases mc with
  | exc c i => exact q
  | stuck => exact q
  | ok b =>
    intro F1 H1 g
    have p1 := PostS.sub g.f p
    cases b with
    | true => exact ⟨F0, H0, F1, R.grow g, p1⟩
    | false => exact ⟨F0, H0, F1, R.grow g, p1⟩
/-- if c: A, A leaves the block; then the rest -/
theorem XB.ifR {c : Expr} {A rest : List Stmt} {mc : Res Bool} {mA mr : Res τ} {fin : τ → Fi} (hc : XT X W ρ c mc) (hA : XB X W ρ A mA fin) (hr : XB X W ρ rest mr fin) (hx : ∀ t, mA = .ok t → ∀ ρ', fin t ≠ .nx ρ') : XB X W ρ (.If c A [] pos :: rest) (do
    let b ← mc
    if b then mA else mr) fin := by
  refine PSs.imp (pss_cons (ps_if hc hA pss_nil) hr) fun D σ H ⟨F0, H0, F, R, p⟩ => ⟨F0, H0, F, R, ?_⟩
  have q := PostS.bindT R p
  cases mc with
  | exc c i => exact q
  | stuck => exact q
  | ok b =>
    intro F1 H1 g
    have p1 := PostS.sub g.f p
    cases b with
    | false => exact ⟨F0, H0, F1, R.grow g, p1⟩
    | true =>
      refine ⟨F0, H0, F1, R.grow g, ?_⟩
      have p2 : PostS X.K X.N.length W F0 H0 F1 mA fin D := p1
      cases mA with
      | exc c i => exact p2
      | stuck => exact p2
      | ok t =>
        have p' : (match fin t with
          | .nx ρ' => ∀ σ' F' H', Rho X.K X.N.length F0 H0 F' H' σ' ρ' → Sub F1 F' → D.nx σ' H'
          | .rt d => ∀ v F' H', Grow F0 H0 F' H' → Rp X.K F' v d → D.rt v H'
          | .bk ρ' => ∀ σ' F' H', Rho X.K X.N.length F0 H0 F' H' σ' ρ' → Sub F1 F' → D.bk σ' H') := p2
        show (match fin t with
          | .nx ρ' => ∀ σ' F' H', Rho X.K X.N.length F0 H0 F' H' σ' ρ' → Sub F1 F' → rdS X.K X.N.length W ρ mr fin D σ' H'
          | .rt d => ∀ v F' H', Grow F0 H0 F' H' → Rp X.K F' v d → D.rt v H'
          | .bk ρ' => ∀ σ' F' H', Rho X.K X.N.length F0 H0 F' H' σ' ρ' → Sub F1 F' → D.bk σ' H')
        cases ef : fin t with
        | nx ρ' => exact absurd ef (hx t rfl ρ')
        | rt d => rw [ef] at p'; exact p'
        | bk ρ' => rw [ef] at p'; exact p'
/-- if c: A else: B, both go on; then the rest -/
theorem XB.ifN {c : Expr} {A B rest : List Stmt} {mc : Res Bool} {mA mB : Res S} {mr : S → Res τ} {fin : τ → Fi} (ρj : S → Rs) (hc : XT X W ρ c mc) (hA : XB X W ρ A mA fun s => .nx (ρj s)) (hB : XB X W ρ B mB fun s => .nx (ρj s)) (hr : ∀ s, XB X W (ρj s) rest (mr s) fin) :
    XB X W ρ (.If c A B pos :: rest) (mc >>= fun b => (if b then mA else mB) >>= fun s => mr s) fin := by
  refine PSs.imp (pss_cons (ps_if hc hA hB) (PSs.ex hr)) fun D σ H ⟨F0, H0, F, R, p⟩ => ⟨F0, H0, F, R, ?_⟩
  have q := PostS.bindT R p
  have go : ∀ {m : Res S} {F1 H1}, Grow F H F1 H1 → PostS X.K X.N.length W F0 H0 F1 (m >>= mr) fin D → PostS X.K X.N.length W F0 H0 F1 m (fun s => .nx (ρj s)) { D with nx := fun σ' H' => ∃ s, rdS X.K X.N.length W (ρj s) (mr s) fin D σ' H' } := fun {m F1 H1} g p => by
    cases m with
    | exc c i => exact p
    | stuck => exact p
    | ok s => exact fun σ' F' H' R' sf => ⟨s, F0, H0, F', R', PostS.sub sf p⟩
  cases mc with
  | exc c i => exact q
  | stuck => exact q
  | ok b =>
    intro F1 H1 g
    have p1 := PostS.sub g.f p
    cases b with
    | true => exact ⟨F0, H0, F1, R.grow g, go g p1⟩
    | false => exact ⟨F0, H0, F1, R.grow g, go g p1⟩
def finC (ω : Ω → Fi) (ρj : S → Rs) : Ctl Ω S → Fi
  | .ex o => ω o
  | .nx s => .nx (ρj s)
/-- what follows a block that may leave -/
def thenC {τ : Type} (exit : Ω → Res τ) (k : S → Res τ) : Ctl Ω S → Res τ
  | .ex o => exit o
  | .nx s => k s
/-- how a block that may leave ends within one whose ends are fin -/
theorem post_mix {K : PySem.W.Frag} {n : Nat} {F0 H0 F : Hp} {m : Res (Ctl Ω S)} {ω : Ω → Fi} {ρj : S → Rs} {exit : Ω → τ} {mr : S → Res τ} {fin : τ → Fi} {D : Ends} {G : S → TS} (he : ∀ o, fin (exit o) = ω o) (hω : ∀ o ρ', ω o ≠ .nx ρ')
    (hG : ∀ s σ' F' H', Rho K n F0 H0 F' H' σ' (ρj s) → PostS K n W F0 H0 F' (mr s) fin D → G s D σ' H') (p : PostS K n W F0 H0 F (m >>= thenC (fun o => .ok (exit o)) mr) fin D) : PostS K n W F0 H0 F m (finC ω ρj) { D with nx := fun σ' H' => ∃ s, G s D σ' H' } := by
  cases m with
  | exc c i => exact p
  | stuck => exact p
  | ok t => cases t with
    | nx s => exact fun σ' F' H' R' sf => ⟨s, hG s σ' F' H' R' (PostS.sub sf p)⟩
    | ex o =>
      have p' : (match fin (exit o) with
        | .nx ρ' => ∀ σ' F' H', Rho K n F0 H0 F' H' σ' ρ' → Sub F F' → D.nx σ' H'
        | .rt d => ∀ v F' H', Grow F0 H0 F' H' → Rp K F' v d → D.rt v H'
        | .bk ρ' => ∀ σ' F' H', Rho K n F0 H0 F' H' σ' ρ' → Sub F F' → D.bk σ' H') := p
      show (match ω o with
        | .nx ρ' => ∀ σ' F' H', Rho K n F0 H0 F' H' σ' ρ' → Sub F F' → ∃ s, G s D σ' H'
        | .rt d => ∀ v F' H', Grow F0 H0 F' H' → Rp K F' v d → D.rt v H'
        | .bk ρ' => ∀ σ' F' H', Rho K n F0 H0 F' H' σ' ρ' → Sub F F' → D.bk σ' H')
      rw [he o] at p'
      cases ew : ω o with
      | nx ρ' => exact absurd ew (hω o ρ')
      | rt d => rw [ew] at p'; exact p'
      | bk ρ' => rw [ew] at p'; exact p'
/-- if c: A else: B, some ways leave the block -/
theorem XB.ifC {c : Expr} {A B rest : List Stmt} {mc : Res Bool} {mA mB : Res (Ctl Ω S)} {mr : S → Res τ} {fin : τ → Fi} {ω : Ω → Fi} (exit : Ω → τ) (ρj : S → Rs) (he : ∀ o, fin (exit o) = ω o) (hω : ∀ o ρ', ω o ≠ .nx ρ') (hc : XT X W ρ c mc) (hA : XB X W ρ A mA (finC ω ρj)) (hB : XB X W ρ B mB (finC ω ρj)) (hr : ∀ s, XB X W (ρj s) rest (mr s) fin) :
    XB X W ρ (.If c A B pos :: rest) (mc >>= fun b => (if b then mA else mB) >>= fun t => thenC (fun o => .ok (exit o)) mr t) fin := by
  refine PSs.imp (pss_cons (ps_if hc hA hB) (PSs.ex hr)) fun D σ H ⟨F0, H0, F, R, p⟩ => ⟨F0, H0, F, R, ?_⟩
  have q := PostS.bindT R p
  have hG : ∀ s σ' F' H', Rho X.K X.N.length F0 H0 F' H' σ' (ρj s) → PostS X.K X.N.length W F0 H0 F' (mr s) fin D → rdS X.K X.N.length W (ρj s) (mr s) fin D σ' H' := fun s σ' F' H' R' p => ⟨F0, H0, F', R', p⟩
  cases mc with
  | exc c i => exact q
  | stuck => exact q
  | ok b =>
    intro F1 H1 g
    have p1 := PostS.sub g.f p
    cases b with
    | true => exact ⟨F0, H0, F1, R.grow g, post_mix (G := fun s => rdS X.K X.N.length W (ρj s) (mr s) fin) he hω hG p1⟩
    | false => exact ⟨F0, H0, F1, R.grow g, post_mix (G := fun s => rdS X.K X.N.length W (ρj s) (mr s) fin) he hω hG p1⟩

/-! ### for -/
theorem drop_cons {xs : List α} {i : Nat} {x : α} (h : xs[i]? = some x) : xs.drop i = x :: xs.drop (i + 1) := by
  obtain ⟨hl, e⟩ := List.getElem?_eq_some_iff.mp h
  rw [List.drop_eq_getElem_cons hl, e]
theorem XB.forC {tg iter : Expr} {body rest : List Stmt} {is : List Nat} {mi : Res (List α)} {s0 : S} {mb : S → α → Res (Ctl Ω S)} {mr : S → Res τ} {fin : τ → Fi} {ω : Ω → Fi} (exit : Ω → τ) (ρh : S → Rs) (ρb : S → α → Rs) (hp : PassesOwn (model X.prog X.w) X.A X.env X.xe) (hc : X.calm = true)
    (he : ∀ o, fin (exit o) = ω o) (hω : ∀ o ρ', ω o ≠ .nx ρ') (hωb : ∀ o ρ', ω o ≠ .bk ρ') (hi : XI X W ρ tg iter mi) (hg : ∀ s x, XG X is (ρh s) tg (toD x) (ρb s x)) (hb : ∀ s x, XB X W (ρb s x) body (mb s x) (finC ω ρh)) (h0 : ∀ p ∈ ρh s0, p ∈ ρ)
    (hr : ∀ s, XB X W (ρh s) rest (mr s) fin) (hs : ∀ x, foldedSetIterable iter X.env x = pure x := by intro _; rfl) :
    XB X W ρ (.For tg iter body [] pos :: rest) (do
    let xs ← mi
    let t ← foldC mb xs s0
    thenC (fun o => .ok (exit o)) mr t) fin := by
  refine PSs.imp (pss_cons (ps_for hp hc hi (PG.ex fun s => PG.ex fun x => hg s x) (PSs.ex fun s => PSs.ex fun x => hb s x) hs) (PSs.ex hr)) fun D σ H ⟨F0, H0, F, R, p⟩ => ⟨F0, H0, F, R, ?_⟩
  cases mi with
  | exc c i => exact excG R.base p
  | stuck => exact p
  | ok xs =>
    intro J F1 H1 g it hz
    have p1 : PostS X.K X.N.length W F0 H0 F1 (foldC mb xs s0 >>= thenC (fun o => .ok (exit o)) mr) fin D := PostS.sub g.f p
    refine ⟨fun i m σ' H' => ∃ F' s, m = xs.length - i ∧ i ≤ xs.length ∧ Rho X.K X.N.length F0 H0 F' H' σ' (ρh s) ∧ Sub F1 F' ∧ PostS X.K X.N.length W F0 H0 F' (foldC mb (xs.drop i) s >>= thenC (fun o => .ok (exit o)) mr) fin D,
      ⟨xs.length, F1, s0, by simp, Nat.zero_le _, (R.grow g).weak h0, fun _ _ e => e, p1⟩, ?_⟩
    rintro i m σ2 H2 ⟨F2, s, rfl, hi2, R2, sf, p2⟩
    by_cases hlt : i < xs.length
    · have ex : xs[i]? = some xs[i] := List.getElem?_eq_getElem hlt
      rw [drop_cons ex] at p2
      refine .inr ⟨it.go i F2 H2 sf R2.fh (by simpa using hlt), fun σ' H' => ∃ F' s', Rho X.K X.N.length F0 H0 F' H' σ' (ρh s') ∧ Sub F1 F' ∧ PostS X.K X.N.length W F0 H0 F' (foldC mb (xs.drop (i + 1)) s' >>= thenC (fun o => .ok (exit o)) mr) fin D,
        fun σ' H' ⟨F', s', R', sf', p'⟩ => ⟨xs.length - (i + 1), by omega, F', s', rfl, hlt, R', sf', p'⟩, fun v H3 y => ?_⟩
      obtain ⟨F3, g3, r3⟩ := it.yld i F2 H2 (toD xs[i]) v H3 sf R2.fh (by rw [List.getElem?_map, ex]; rfl) y
      refine ⟨s, xs[i], F0, H0, F3, R2.grow g3, r3, fun σ4 R4 _ => ⟨s, xs[i], F0, H0, F3, R4, ?_⟩⟩
      have p3 : PostS X.K X.N.length W F0 H0 F3 ((mb s xs[i] >>= thenC (fun o => .ok (.ex o)) (foldC mb (xs.drop (i + 1)))) >>= thenC (fun o => .ok (exit o)) mr) fin D := by
        have q := PostS.sub g3.f p2
        have e : foldC mb (xs[i] :: xs.drop (i + 1)) s = (mb s xs[i] >>= thenC (fun o => .ok (.ex o)) (foldC mb (xs.drop (i + 1)))) := by
          show (mb s xs[i] >>= fun t => _) = _
          cases mb s xs[i] with
          | ok t => cases t <;> rfl
          | exc c i => rfl
          | stuck => rfl
        rw [e] at q
        exact q
      cases eb : mb s xs[i] with
      | exc c i => rw [eb] at p3; exact p3
      | stuck => rw [eb] at p3; exact p3
      | ok t => cases t with
        | nx s' =>
          rw [eb] at p3
          exact fun σ' F' H' R' sf' => ⟨F', s', R', (sf.trans g3.f).trans sf', PostS.sub sf' p3⟩
        | ex o =>
          rw [eb] at p3
          have p' : (match fin (exit o) with
            | .nx ρ' => ∀ σ' F' H', Rho X.K X.N.length F0 H0 F' H' σ' ρ' → Sub F3 F' → D.nx σ' H'
            | .rt d => ∀ v F' H', Grow F0 H0 F' H' → Rp X.K F' v d → D.rt v H'
            | .bk ρ' => ∀ σ' F' H', Rho X.K X.N.length F0 H0 F' H' σ' ρ' → Sub F3 F' → D.bk σ' H') := p3
          rw [he o] at p'
          have ht : ∀ (D' : Ends), D'.rt = D.rt → (match ω o with
            | .nx ρ' => ∀ σ' F' H', Rho X.K X.N.length F0 H0 F' H' σ' ρ' → Sub F3 F' → D'.nx σ' H'
            | .rt d => ∀ v F' H', Grow F0 H0 F' H' → Rp X.K F' v d → D'.rt v H'
            | .bk ρ' => ∀ σ' F' H', Rho X.K X.N.length F0 H0 F' H' σ' ρ' → Sub F3 F' → D'.bk σ' H') := fun D' e => by
            cases ew : ω o with
            | nx ρ' => exact absurd ew (hω o ρ')
            | rt d => rw [ew] at p'; rw [e]; exact p'
            | bk ρ' => exact absurd ew (hωb o ρ')
          exact ht _ rfl
    · have e : i = xs.length := by omega
      subst e
      refine .inl ⟨it.stop _ F2 H2 sf R2.fh (by simp), s, F0, H0, F2, R2, ?_⟩
      rw [List.drop_length] at p2
      exact p2
theorem foldC_nx {mb : S → α → Res S} : ∀ (xs : List α) (s : S), foldC (Ω := Empty) (fun s x => (mb s x).map .nx) xs s = (foldR mb xs s).map .nx
  | [], s => rfl
  | x :: xs, s => by
    show ((mb s x).map Ctl.nx >>= fun t => _) = ((mb s x >>= fun s' => foldR mb xs s').map Ctl.nx)
    cases mb s x with
    | ok s' => exact foldC_nx xs s'
    | exc c i => rfl
    | stuck => rfl
theorem XB.map_fin {sts : List Stmt} {m : Res S} {fin : τ → Fi} {f : S → τ} (h : XB X W ρ sts m (fun s => fin (f s))) : XB X W ρ sts (m.map f) fin := PSs.imp h fun D σ H ⟨F0, H0, F, R, p⟩ => ⟨F0, H0, F, R, by cases m <;> exact p⟩
/-- the body goes on always -/
theorem XB.forS {tg iter : Expr} {body rest : List Stmt} {is : List Nat} {mi : Res (List α)} {s0 : S} {mb : S → α → Res S} {mr : S → Res τ} {fin : τ → Fi} (ρh : S → Rs) (ρb : S → α → Rs) (hp : PassesOwn (model X.prog X.w) X.A X.env X.xe) (hc : X.calm = true)
    (hi : XI X W ρ tg iter mi) (hg : ∀ s x, XG X is (ρh s) tg (toD x) (ρb s x)) (hb : ∀ s x, XB X W (ρb s x) body (mb s x) fun s' => .nx (ρh s')) (h0 : ∀ p ∈ ρh s0, p ∈ ρ)
    (hr : ∀ s, XB X W (ρh s) rest (mr s) fin) (hs : ∀ x, foldedSetIterable iter X.env x = pure x := by intro _; rfl) :
    XB X W ρ (.For tg iter body [] pos :: rest) (do
    let xs ← mi
    let s ← foldR mb xs s0
    mr s) fin := by
  refine (XB.forC (Ω := Empty) (ω := fun o => nomatch o) (mb := fun s x => (mb s x).map .nx) (fun o => nomatch o) ρh ρb hp hc (fun o => nomatch o) (fun o => nomatch o) (fun o => nomatch o) hi hg (fun s x => XB.map_fin (hb s x)) h0 hr hs).eq ?_
  cases mi with
  | exc c i => rfl
  | stuck => rfl
  | ok xs =>
    show (foldR mb xs s0 >>= mr) = (foldC (fun s x => (mb s x).map .nx) xs s0 >>= _)
    rw [foldC_nx]
    cases foldR mb xs s0 <;> rfl
/-- the body may leave by break -/
inductive Brk (Ω S : Type) where
  | ex (o : Ω)
  | nx (s : S)
  | bk (s : S)

/-! ### while -/
theorem XB.whileG {c : Expr} {body rest : List Stmt} {s0 : S} {mc : S → Res Bool} {mb : S → Res (Ctl Ω S)} {mr : S → Res τ} {fin : τ → Fi} {ω : Ω → Fi} (exit : Ω → τ) (ρh : S → Rs) (hp : PassesOwn (model X.prog X.w) X.A X.env X.xe)
    (he : ∀ o, fin (exit o) = ω o) (hω : ∀ o ρ', ω o ≠ .nx ρ') (hωb : ∀ o ρ', ω o ≠ .bk ρ') (hc : ∀ s, XT X W (ρh s) c (mc s)) (hb : ∀ s, XB X W (ρh s) body (mb s) (finC ω ρh)) (h0 : ∀ p ∈ ρh s0, p ∈ ρ) (hr : ∀ s, XB X W (ρh s) rest (mr s) fin) (n : Nat) :
    XB X W ρ (.While c body [] pos :: rest) (do
    let t ← whileNC mc mb n s0
    thenC (fun o => .ok (exit o)) mr t) fin := by
  refine PSs.imp (pss_cons (ps_while hp (PT.ex hc) (PSs.ex hb)) (PSs.ex hr)) fun D σ H ⟨F0, H0, F, R, p⟩ => ?_
  refine ⟨fun m σ' H' => ∃ F' s, Rho X.K X.N.length F0 H0 F' H' σ' (ρh s) ∧ PostS X.K X.N.length W F0 H0 F' (whileNC mc mb m s >>= thenC (fun o => .ok (exit o)) mr) fin D, ⟨n, F, s0, R.weak h0, p⟩, ?_⟩
  rintro m σ2 H2 ⟨F2, s, R2, p2⟩
  cases m with
  | zero => exact p2.elim
  | succ m =>
    refine ⟨s, F0, H0, F2, R2, ?_⟩
    have p3 : PostS X.K X.N.length W F0 H0 F2 (mc s >>= fun k => ((if k then mb s >>= thenC (fun o => .ok (.ex o)) (whileNC mc mb m) else .ok (.nx s)) >>= thenC (fun o => .ok (exit o)) mr)) fin D := by
      have e : (whileNC mc mb (m + 1) s >>= thenC (fun o => .ok (exit o)) mr) = (mc s >>= fun k => ((if k then mb s >>= thenC (fun o => .ok (.ex o)) (whileNC mc mb m) else .ok (.nx s)) >>= thenC (fun o => .ok (exit o)) mr)) := by
        show ((mc s >>= fun k => _) >>= _) = _
        cases mc s with
        | exc c i => rfl
        | stuck => rfl
        | ok k => cases k with
          | false => rfl
          | true =>
            show ((mb s >>= fun t => _) >>= _) = ((mb s >>= _) >>= _)
            cases mb s with
            | exc c i => rfl
            | stuck => rfl
            | ok t => cases t <;> rfl
      rw [e] at p2
      exact p2
    have q := PostS.bindT R2 p3
    cases ec : mc s with
    | exc c i => rw [ec] at q; exact q
    | stuck => rw [ec] at q; exact q
    | ok k =>
      rw [ec] at p3
      intro F3 H3 g3
      have p4 := PostS.sub g3.f p3
      cases k with
      | false => exact ⟨s, F0, H0, F3, R2.grow g3, p4⟩
      | true =>
        refine ⟨fun σ' H' => ∃ F' s', Rho X.K X.N.length F0 H0 F' H' σ' (ρh s') ∧ PostS X.K X.N.length W F0 H0 F' (whileNC mc mb m s' >>= thenC (fun o => .ok (exit o)) mr) fin D, fun σ' H' ⟨F', s', R', p'⟩ => ⟨m, Nat.lt_succ_self m, F', s', R', p'⟩, s, F0, H0, F3, R2.grow g3, ?_⟩
        have p5 : PostS X.K X.N.length W F0 H0 F3 ((mb s >>= thenC (fun o => .ok (.ex o)) (whileNC mc mb m)) >>= thenC (fun o => .ok (exit o)) mr) fin D := p4
        cases eb : mb s with
        | exc c i => rw [eb] at p5; exact p5
        | stuck => rw [eb] at p5; exact p5
        | ok t => cases t with
          | nx s' =>
            rw [eb] at p5
            exact fun σ' F' H' R' sf' => ⟨F', s', R', PostS.sub sf' p5⟩
          | ex o =>
            rw [eb] at p5
            have p' : (match fin (exit o) with
              | .nx ρ' => ∀ σ' F' H', Rho X.K X.N.length F0 H0 F' H' σ' ρ' → Sub F3 F' → D.nx σ' H'
              | .rt d => ∀ v F' H', Grow F0 H0 F' H' → Rp X.K F' v d → D.rt v H'
              | .bk ρ' => ∀ σ' F' H', Rho X.K X.N.length F0 H0 F' H' σ' ρ' → Sub F3 F' → D.bk σ' H') := p5
            rw [he o] at p'
            have ht : ∀ (D' : Ends), D'.rt = D.rt → (match ω o with
              | .nx ρ' => ∀ σ' F' H', Rho X.K X.N.length F0 H0 F' H' σ' ρ' → Sub F3 F' → D'.nx σ' H'
              | .rt d => ∀ v F' H', Grow F0 H0 F' H' → Rp X.K F' v d → D'.rt v H'
              | .bk ρ' => ∀ σ' F' H', Rho X.K X.N.length F0 H0 F' H' σ' ρ' → Sub F3 F' → D'.bk σ' H') := fun D' e => by
              cases ew : ω o with
              | nx ρ' => exact absurd ew (hω o ρ')
              | rt d => rw [ew] at p'; rw [e]; exact p'
              | bk ρ' => exact absurd ew (hωb o ρ')
            exact ht _ rfl
theorem whileNC_nx {mc : S → Res Bool} {mb : S → Res S} : ∀ (n : Nat) (s : S), whileNC (Ω := Empty) mc (fun s => (mb s).map .nx) n s = (whileN mc mb n s).map .nx
  | 0, s => rfl
  | n + 1, s => by
    show (mc s >>= fun k => _) = ((mc s >>= fun k => _).map Ctl.nx)
    cases mc s with
    | exc c i => rfl
    | stuck => rfl
    | ok k => cases k with
      | false => rfl
      | true =>
        show ((mb s).map Ctl.nx >>= fun t => _) = ((mb s >>= fun s' => whileN mc mb n s').map Ctl.nx)
        cases mb s with
        | exc c i => rfl
        | stuck => rfl
        | ok s' => exact whileNC_nx n s'
theorem XB.whileS {c : Expr} {body rest : List Stmt} {s0 : S} {mc : S → Res Bool} {mb : S → Res S} {mr : S → Res τ} {fin : τ → Fi} (ρh : S → Rs) (hp : PassesOwn (model X.prog X.w) X.A X.env X.xe)
    (hc : ∀ s, XT X W (ρh s) c (mc s)) (hb : ∀ s, XB X W (ρh s) body (mb s) fun s' => .nx (ρh s')) (h0 : ∀ p ∈ ρh s0, p ∈ ρ) (hr : ∀ s, XB X W (ρh s) rest (mr s) fin) :
    XB X W ρ (.While c body [] pos :: rest) (do
    let s ← whileR mc mb s0
    mr s) fin := by
  by_cases hx : whileR mc mb s0 = .stuck
  · rw [hx]
    refine ⟨fun pins s σ H D I ⟨F0, H0, F, R, p⟩ => p.elim⟩
  · obtain ⟨n, h1, h2⟩ := whileR_ne hx
    refine (XB.whileG (Ω := Empty) (ω := fun o => nomatch o) (mb := fun s => (mb s).map .nx) (fun o => nomatch o) ρh hp (fun o => nomatch o) (fun o => nomatch o) (fun o => nomatch o) hc (fun s => XB.map_fin (hb s)) h0 hr n).eq ?_
    rw [whileNC_nx, h2]
    cases whileN mc mb n s0 <;> rfl
end
end Vs
end
section
set_option Elab.async false
set_option linter.all false
set_option maxRecDepth 100000
set_option maxHeartbeats 1000000
/-! VsG: what a def promises where no repr is under way (repr of a list asks that). -/
namespace Vs
open Enc (toD)
open PySem PySem.Spec PyProof.Rows L2

structure GRoom (k : Nat) (A : Around) : Prop where
  r : Room k A
  g : A.guards = some []
theorem GRoom.mono {j k : Nat} {A : Around} (r : GRoom k A) (h : j ≤ k) : GRoom j A := ⟨r.r.mono h, r.g⟩
theorem GRoom.deeper {k : Nat} {A : Around} (r : GRoom (k + 1) A) (env : Env) : GRoom k (A.deeper env) := ⟨r.r.deeper env, r.g⟩
/-- as FnOk -/
structure FnG (P : Program) (w : World) (K : PySem.W.Frag) (mg : Str → Option Value) (base : Heap) (CX : CXT) (k : Nat) (f : Addr) (fd : FuncData) (ps : List Str) (sp : Sp) : Prop where
  len : ∀ vs H Q E, sp vs H Q E → vs.length = ps.length
  run : ∀ (A : Around) (outer : List Env) (s : Shared) (H : Hp) (args : Args) (us : List Value) (vs : List V) (Q : VK) (E : XK), GRoom k A → Env0 P w K mg base A outer s H → BindsTo s fd args (ps.zip us) → Vals vs us → sp vs H Q E → codeAny (model P w) A (.call (.ref f) args) (CR CX outer P w H s Q E) s
theorem FnG.mono {P : Program} {w : World} {K : PySem.W.Frag} {mg : Str → Option Value} {base : Heap} {CX : CXT} {j k : Nat} {f : Addr} {fd : FuncData} {ps : List Str} {sp : Sp} (F : FnG P w K mg base CX j f fd ps sp) (h : j ≤ k) : FnG P w K mg base CX k f fd ps sp :=
  ⟨F.len, fun A outer s H args us vs Q E r => F.run A outer s H args us vs Q E (r.mono h)⟩
/-- a def, by its body -/
theorem FnG.of {P : Program} {w : World} {K : PySem.W.Frag} {mg : Str → Option Value} {base : Heap} {x qual : Str} {params : Arguments} {body : List Stmt} {scope : Scope} {dvs : List V} {kws : List (Str × V)} {f : Addr} {fd : FuncData} {CX : CXT} {N ps : List Str} {k : Nat} {sp : Sp}
    (F : FunD K x qual params body scope dvs kws f fd) (S : FnScope N ps scope) (len : ∀ vs H Q E, sp vs H Q E → vs.length = ps.length)
    (hbody : ∀ (cdv : Value) (A : Around) (outer : List Env) (s : Shared) (H : Hp) (vs : List V) (Q : VK) (E : XK), GRoom k (A.deeper (envOfC qual scope s.heap.objs.size f cdv)) → sp vs H Q E →
      ∃ t, PSs (cxOf CX P w K mg base N qual scope f cdv A outer s H E) body t ∧ t { nx := fun _ H' => Q .non H', rt := Q } (L2.start N vs) H) : FnG P w K mg base CX (k + 1) f fd ps sp := by
  have ⟨oc, od, dV, kV, doc, pm, an, cdv, ct, osl, eqf, lk, hcd, _, _⟩ := F.ex; subst eqf
  refine ⟨len, fun A outer s H args us vs Q E gr ent hb rv hP => ?_⟩
  have hlen := len vs H Q E hP
  have inK : K.In s.heap := ent.mod.kin.keeps fun b o q => (ent.bs b o q).1
  have noL : s.heap.NoLimit := ent.mod.nolimit.keeps fun b o q => (ent.bs b o q).1
  have kinds : ∀ y ∈ ps.zip us, scope.names.lookup y.1 = some .local ∨ (scope.names.lookup y.1 = some .cell ∧ ((cellsFrom (s.heap.objs.size + 1) scope.names []).lookup y.1).isSome = true) := fun y hy =>
    (S.par y.1 (List.of_mem_zip (show (y.1, y.2) ∈ ps.zip us from hy)).1).imp id fun q => ⟨q, PySem.W.cellsFrom_some _ _ _ (.inl q)⟩
  refine codeAny_call_function gr.r.depth (inK _ _ lk) rfl S.co S.gen rfl (PySem.W.codeRec_of inK hcd) (hb _ _ _ _ (wpAny_newFunctionEnv_cells S.kind kinds fun env he s1 x => ?_))
  subst he
  refine ⟨noL.keeps x.toInCall.keep, codeAny_func ?_⟩
  obtain ⟨t, ht, hq⟩ := hbody cdv A outer s H vs Q E (gr.deeper _) hP
  have I : Inv (cxOf CX P w K mg base N qual scope f cdv A outer s H E) [] (L2.start N vs) H s1 := inv_start S gr.r.hd ent hlen rv x
  refine wpAny_mono (ht.run [] s1 (L2.start N vs) H _ I hq) (fun fl s' hs => ?_) fun _ _ hs => hs
  cases fl with
  | next =>
    obtain ⟨σ2, H2, J, q⟩ := hs
    exact ⟨V.non, H2, J.os, J.bare, J.base, J.hok, rfl, q⟩
  | ret u =>
    obtain ⟨v, σ2, H2, J, rv2, q⟩ := hs
    exact ⟨v, H2, J.os, J.bare, J.base, J.hok, rv2, q⟩
  | brk => exact hs.elim fun _ h => h.elim fun _ h => h.2.elim
  | cont => exact hs.elim fun _ h => h.elim fun _ h => h.2.elim
section
variable {X : Cx} {CX : CXT} {k : Nat} {f : Addr} {fd : FuncData} {ps : List Str} {sp : Sp} {E : XK} {x : Str} {p pos : Pos} {e : Expr} {es : List Expr} {t : TA}
theorem run_fnG {pins : List (Addr × Obj)} {σ : St} {H : Hp} {s : Shared} {Q : VK} {us : List Value} {vs : List V} (F : FnG X.prog X.w X.K X.mg X.base CX k f fd ps sp) (gr : GRoom k X.A) (hb : Binds X.K fd ps []) (hx : Passes CX X E)
    (I : Inv X pins σ H s) (rv : Vals vs us) (h : sp vs H Q E) : wpAny (model X.prog X.w) X.A (call (.ref f) us) (EP X pins σ Q) X.xe s := by
  have hl : (us ++ []).length = ps.length := by rw [List.append_nil, ← rv.length]; exact F.len _ _ _ _ h
  have b := hb s us I.kIn hl
  rw [List.append_nil] at b
  refine wpAny_call (codeAny_mono (F.run X.A X.stack s H ⟨us, []⟩ us vs Q E gr I.env0 b rv h) fun r s2 hq => ?_)
  match r, hq with
  | .error e, hq => exact hx pins σ H s e s2 I hq
  | .ok (.ret u), hq => exact I.after hq
theorem pe_callG (F : FnG X.prog X.w X.K X.mg X.base CX k f fd ps sp) (gr : GRoom k X.A) (hg : Gl X x) (hm : X.mg x = some (.ref f)) (hk : PySem.W.keepIn X.K (.ref f) = true) (hb : Binds X.K fd ps []) (hx : Passes CX X E)
    (ha : PA X (e :: es) t) (hdb : (x  == ("__debug__" : Str)) = false := by decide) (he : starEach (e :: es) X.env = (false, eval e X.env) :: starEach es X.env := by rfl) (hpl : (backTo pos (starEach es X.env)).any (·.1) = false := by rfl) :
    PE X (.Call (.Name x p) (e :: es) [] pos) (fun σ H Q => t σ H fun vs H1 => sp vs H1 Q E) :=
  ⟨fun pins s σ H Q I h => wpAny_Call_Name_kw (ld_glob I hg hm (PySem.W.callWith_K (h₀ := X.base) I.ok.mod.kin hk (thn (ha.run pos pins s σ H _ I h) fun us s1 ⟨vs, H1, I1, rv, q⟩ => ⟨I1.kIn, run_fnG F gr hb hx I1 rv q⟩) he hpl) hdb)⟩
theorem pe_call0G (F : FnG X.prog X.w X.K X.mg X.base CX k f fd ps sp) (gr : GRoom k X.A) (hg : Gl X x) (hm : X.mg x = some (.ref f)) (hk : PySem.W.keepIn X.K (.ref f) = true) (hb : Binds X.K fd ps []) (hx : Passes CX X E)
    (hdb : (x == ("__debug__" : Str)) = false := by decide) : PE X (.Call (.Name x p) [] [] pos) (fun σ H Q => sp [] H Q E) :=
  ⟨fun pins s σ H Q I h => wpAny_Call_Name_kw (ld_glob I hg hm (PySem.W.callWith_K0 I.kIn hk (run_fnG (us := []) F gr hb hx I .nil h)) hdb)⟩
end
/-- the law's call, from what its def promises there -/
theorem law_callG {P : Program} {w : World} {K : PySem.W.Frag} {mg mb : Str → Option Value} {CX : CXT} {k : Nat} {fa a : Addr} {fd : FuncData} {x : Str} {sp : Sp} {t1 : Shared} {vs : List Value} {ns : List Int}
    (KX : K.In t1.heap) (hns : t1.heap.Ns mainGlobals mg) (hb : t1.heap.Ns builtinsNs mb) (hbb : ∀ x : Str, x ≠ "__name__" → mb x = bootBuiltins x) (hlim : t1.heap.NoLimit) (hg : t1.gens = #[])
    (ha : t1.heap.get? a = some { cls := .type "list", data := .seq vs.toArray }) (hi : IntsAre vs ns) (hl : ns.length ≤ sizeLine) (gr : GRoom k callerA)
    (F : ∀ base : Heap, K.In base → base.Ns mainGlobals mg → FnG P w K mg base CX k fa fd [x] sp) (hbind : ∀ (s : Shared) (u : Value), BindsTo s fd ⟨[u], []⟩ [(x, u)])
    (hP : ∀ H : Hp, Only H → SqL K H a (ns.map V.int) → sp [.ref a] H (fun v _ => v = .bl true) fun _ _ _ => False) (hCX : ∀ H e s', CX [] H t1 (fun _ _ _ => False) e s' → False) :
    codeAny (model P w) callerA (.call (.ref fa) ⟨[.ref a], []⟩) (fun r s' => r = .ok (.ret (.bool true)) ∧ OldK t1.heap s'.heap ∧ s'.os = t1.os ∧ AllBare s'.gens) t1 := by
  have rv := vals_ints hi
  -- H holds the script at most
  have core : ∀ H : Hp, (∀ b, H b = none ∨ b = a ∧ K.lookup a = none ∧ ∃ o xs, H b = some (.frz o (.lst xs))) → SqL K H a (ns.map V.int) → HOk P w H t1.heap →
      codeAny (model P w) callerA (.call (.ref fa) ⟨[.ref a], []⟩) (fun r s' => r = .ok (.ret (.bool true)) ∧ OldK t1.heap s'.heap ∧ s'.os = t1.os ∧ AllBare s'.gens) t1 := by
    intro H hO hS hok
    have only : Only H := fun b => (hO b).imp id fun h => h.2.2
    have below : ∀ {b : Addr} {o : Obj}, t1.heap.get? b = some o → H b = none → (hidT t1.heap H).get? b = some o := fun e n => hidT_get e n
    have nsK : ∀ {b : Addr} {m : Str → Option Value}, t1.heap.Ns b m → (hidT t1.heap H).Ns b m := fun {b m} ⟨o, es, ep, e, d, r⟩ => by
      refine ⟨o, es, ep, below e ((hO b).elim id fun ⟨q, _⟩ => ?_), d, r⟩
      subst q
      rw [ha] at e; cases e; cases d
    have inK : K.In (hidT t1.heap H) := fun b o e => below (KX b o e) ((hO b).elim id fun ⟨q, n, _⟩ => by
      subst q
      rw [n] at e; cases e)
    have hM : Mod K mg (hidT t1.heap H) := ⟨inK, nsK hns, ⟨mb, nsK hb, hbb⟩, let ⟨mc, q1, q2⟩ := hlim; ⟨mc, nsK q1, q2⟩⟩
    have ent  : Env0 P w K mg (hidT t1.heap H) callerA [] t1 H := ⟨rfl, hM, fun b o e => of_hidT e, Nat.le_of_eq (hidT_size _ _), trivial, fun b hb => absurd (show b ∈ ([] : List Addr) from hb) (by simp), hok, .of_eq hg⟩
    refine codeAny_mono ((F _ inK (nsK hns)).run callerA [] t1 H ⟨[.ref a], []⟩ [.ref a] [.ref a] _ _ gr ent (hbind t1 (.ref a)) (.cons rfl .nil) (hP H only hS)) fun r s' h => ?_
    match r, h with
    | .error e, h => exact (hCX H e s' h).elim
    | .ok (.ret u), h =>
      obtain ⟨v, H', os, bare, un, hok2, r2, q⟩ := h
      have q' : v = .bl true := q
      subst q'
      obtain rfl : u = Value.bool true := r2
      refine ⟨rfl, OldK.of_keep fun b o e => ?_, os, bare⟩
      rcases hO b with z | ⟨_, _, ob, xs, z⟩
      · exact un.keep b o e z (by intro y; exact absurd (show b ∈ ([] : List Addr) from y) (by simp)) (by simp)
      · obtain ⟨e1, _⟩ := hok b _ z
        obtain ⟨e2, _⟩ := hok2 b _ (un.frzs b ob _ z)
        rw [e] at e1; cases e1
        exact e2
  cases hk : K.lookup a with
  | some o =>
    have e := KX a o hk
    rw [ha] at e; cases e
    exact core (fun _ => none) (fun _ => .inl rfl) (.inr ⟨_, vs.toArray, _, hk, rfl, rfl, rfl, by rw [List.size_toArray, hi.length]; exact hl, by simpa using rv⟩) fun b u z => nomatch (show (none : Option HO) = some u from z)
  | none =>
    refine core (fun b => if b = a then some (.frz { cls := .type "list", data := .seq vs.toArray } (.lst (ns.map V.int))) else none) (fun b => ?_) (.inl (.inr ⟨{ cls := .type "list", data := .seq vs.toArray }, if_pos rfl⟩)) fun b u z => ?_
    · by_cases hb : b = a
      · exact .inr ⟨hb, hk, _, _, if_pos hb⟩
      · exact .inl (if_neg hb)
    · by_cases hb : b = a
      · have z1 := (if_pos hb).symm.trans z
        cases z1
        subst hb
        exact ⟨ha, (by rw [List.length_map]; exact hl), vs, _, rv, ha⟩
      · have z1 := (if_neg hb).symm.trans z
        cases z1
/-- the end of a law's walk -/
theorem walk_ofG {l : PySem.W.OpenLaw} {n k : Nat} {q : Program} {loose : List Str} {XP : (Str → Option Value) → Heap → Prop} {YP : World → Heap → Prop} {d : DefRec} {CX : CXT} {x : Str}
    (hn : l.most = some n) (hn2 : n ≤ sizeLine) (hdf : d.params.defaults = []) (gr : GRoom k callerA)
    (F : ∀ (w : World) (mg : Str → Option Value) (fa : Addr) (h : Heap), YP w h → h.Ns mainGlobals mg → mg d.name = some (.ref fa) →
      ∃ (K : PySem.W.Frag) (fd : FuncData) (sp : Sp), K.In h ∧ (∀ (s : Shared) (u : Value), BindsTo s fd ⟨[u], []⟩ [(x, u)]) ∧ (∀ (H : Hp) (a : Addr) (ns : List Int), ns.length ≤ n → Only H → SqL K H a (ns.map V.int) → sp [.ref a] H (fun v _ => v = .bl true) fun _ _ _ => False) ∧
        ∀ base : Heap, K.In base → base.Ns mainGlobals mg → FnG l.prog w K mg base CX k fa fd [x] sp)
    (hCX : ∀ (H : Hp) (s : Shared) (e : Value) (s' : Shared), CX [] H s (fun _ _ _ => False) e s' → False) : PySem.W.WalkO q loose XP YP l.row.toRowW d [] (fun f vs => PySem.call f vs) := by
  refine Att.attach_call hn hdf fun w s₀ t1 mg mb fa o pm cd doc a vs ns G Y _ _ _ hmg hobj hints hlen hg => ?_
  obtain ⟨K, fd, sp, KX, hb, hP, hF⟩ := F w mg fa _ Y G.T.g hmg
  exact law_callG KX G.T.g G.T.b G.T.builtins G.T.nolimit hg hobj hints (Nat.le_trans hlen hn2) gr hF hb (fun H hO hS => hP H a ns hlen hO hS) fun H e s' => hCX H t1 e s'
end Vs
end
section
set_option Elab.async false
set_option linter.all false
set_option maxRecDepth 100000
set_option maxHeartbeats 1000000
/-! Vs6: comprehensions, defs and calls. -/
namespace Vs
open Enc (toD)
open PySem PySem.Spec PyProof.Rows L2

/-! ### comprehensions -/
abbrev W0 : WX := fun _ _ _ _ => False
theorem wipe_at {σ : St} {i : Nat} : ∀ {vs : List Nat}, (wipe σ vs)[i]? = if i ∈ vs then (if i < σ.length then some none else none) else σ[i]?
  | [] => by simp [wipe]
  | v :: vs => by
    unfold wipe
    by_cases h : v = i
    · subst h
      by_cases hl : v < σ.length
      · rw [List.getElem?_set_self (by rw [wipe_length]; exact hl)]; simp [hl]
      · rw [List.getElem?_eq_none (by rw [List.length_set, wipe_length]; omega)]; simp [hl]
    · rw [List.getElem?_set_ne h, wipe_at (vs := vs)]
      simp [Ne.symm h]
theorem wipe_eq {σ σ' : St} {vs : List Nat} (hl : σ'.length = σ.length) (h : ∀ j, j ∉ vs → σ'[j]? = σ[j]?) : wipe σ' vs = wipe σ vs := by
  apply List.ext_getElem?
  intro i
  rw [wipe_at, wipe_at, hl]
  by_cases hi : i ∈ vs
  · simp [hi]
  · simp [hi, h i hi]
/-- the block's own slots are forgotten -/
theorem Rho.wipe {K : PySem.W.Frag} {n : Nat} {F0 H0 F H : Hp} {σ : St} {ρ ρ' : Rs} {vs : List Nat} (R : Rho K n F0 H0 F H σ ρ) (w : ∀ p ∈ ρ', p ∈ ρ ∧ p.1 ∉ vs) : Rho K n F0 H0 F H (wipe σ vs) ρ' := by
  have same : ∀ {j : Nat}, j ∉ vs → (L2.wipe σ vs)[j]? = σ[j]? := fun hj => by rw [wipe_at, if_neg hj]
  refine ⟨by rw [wipe_length]; exact R.len, R.base, fun j d m => ?_, fun j d m => ?_, fun j k d e a m1 m2 e1 e2 => ?_⟩
  · obtain ⟨m', ne⟩ := w _ m
    obtain ⟨v, e, r⟩ := R.sh j d m'
    exact ⟨v, by rw [same ne]; exact e, r⟩
  · obtain ⟨m', ne⟩ := w _ m
    obtain ⟨a, e, c⟩ := R.ow j d m'
    exact ⟨a, by rw [same ne]; exact e, c⟩
  · obtain ⟨m1', n1⟩ := w _ m1
    obtain ⟨m2', n2⟩ := w _ m2
    exact R.inj j k d e a m1' m2' (by rw [← same n1]; exact e1) (by rw [← same n2]; exact e2)
section
variable {X : Cx} {W : WX} {ρ : Rs} {pos : Pos} {α β γ δ S τ Ω : Type} [Enc α] [Enc β] [Enc γ] [Enc δ]
abbrev XTs (X : Cx) (W : WX) (ρ : Rs) (ifs : List Expr) (m : Res Bool) : Prop := PTs X ifs (rdT X.K X.N.length W ρ m)
theorem XTs.nil : XTs X W ρ [] (.ok true) := ⟨fun pins s σ H Q I ⟨F0, H0, F, R, p⟩ => pts_nil.run pins s σ H Q I (p F H (.refl R.fh))⟩
theorem XTs.one {c : Expr} {m : Res Bool} (h : XT X W ρ c m) : XTs X W ρ [c] m := pts_one h
theorem PTs.imp {ifs : List Expr} {t t' : TT} (h : PTs X ifs t) (hi : ∀ σ H Q, t' σ H Q → t σ H Q) : PTs X ifs t' := ⟨fun pins s σ H Q I q => h.run pins s σ H Q I (hi σ H Q q)⟩
theorem PTs.ex {ι : Type} {ifs : List Expr} {t : ι → TT} (h : ∀ i, PTs X ifs (t i)) : PTs X ifs (fun σ H Q => ∃ i, t i σ H Q) := ⟨fun pins s σ H Q I ⟨i, q⟩ => (h i).run pins s σ H Q I q⟩
/-- within a comprehension's block no error may leave -/
theorem post_noXT {K : PySem.W.Frag} {F H : Hp} {m : Res Bool} {Q : Bool → Hp → Prop} (p : PostT K W0 F H (noX m) Q) : PostT K W0 F H m Q := by
  cases m with
  | ok b => exact p
  | exc c i => exact p.elim
  | stuck => exact p
theorem post_noXV {K : PySem.W.Frag} {F H : Hp} {m : Res PyData} {Q : VK} (p : PostV K W0 F H (noX m) Q) : PostV K W0 F H m Q := by
  cases m with
  | ok b => exact p
  | exc c i => exact p.elim
  | stuck => exact p
/-- what holds of a turn: z items are made, D the new list -/
structure LcW (K : PySem.W.Frag) (n : Nat) (F0 H0 F1 : Hp) (σ : St) (ρ1 : Rs) (D : Addr) (F H : Hp) (acc : List β) : Prop where
  R : Rho K n F0 H0 F H σ ρ1
  sf : Sub F1 F
  zf : F D = none
  z0 : H0 D = none
  no : ∀ j e, (j, SV.ow e) ∈ ρ1 → σ[j]? ≠ some (some (.ref D))
  lst : ∃ vs, H D = some (.lst vs) ∧ RpAll K F vs (acc.map toD)
theorem lcR_cons (t : α → Res Bool) (f : α → Res β) (x : α) (xs : List α) : lcR t f (x :: xs) = (noX (t x) >>= fun b => if b then noX (f x) >>= fun y => lcR t f xs >>= fun ys => .ok (y :: ys) else lcR t f xs) := rfl
theorem lcR_len {t : α → Res Bool} {f : α → Res β} : ∀ {xs : List α} {ys : List β}, lcR t f xs = .ok ys → ys.length ≤ xs.length
  | [], ys, h => by cases h; exact Nat.le_refl _
  | x :: xs, ys, h => by
    rw [lcR_cons] at h
    obtain ⟨b, _, h⟩ := Res.eq_ok_of_bind h
    cases b with
    | false => exact Nat.le_succ_of_le (lcR_len h)
    | true =>
      obtain ⟨y, _, h⟩ := Res.eq_ok_of_bind h
      obtain ⟨zs, h1, h⟩ := Res.eq_ok_of_bind h
      cases h
      exact Nat.succ_le_succ (lcR_len h1)
theorem lcR_no {t : α → Res Bool} {f : α → Res β} : ∀ {xs : List α} {c : Str} {i : Int}, lcR t f xs ≠ .exc c i
  | [], _, _, h => by cases h
  | x :: xs, c, i, h => by
    rw [lcR_cons] at h
    cases e : noX (t x) with
    | exc c' i' => exact noX_no e
    | stuck => rw [e] at h; cases h
    | ok b =>
      rw [e] at h
      cases b with
      | false => exact lcR_no h
      | true =>
        cases e2 : noX (f x) with
        | exc c' i' => exact noX_no e2
        | stuck => simp only [Res.ok_bind, if_true, e2] at h; cases h
        | ok y =>
          simp only [Res.ok_bind, if_true, e2] at h
          cases e3 : lcR t f xs with
          | exc c' i' => exact lcR_no e3
          | stuck => rw [e3] at h; cases h
          | ok ys => rw [e3] at h; cases h
/-- the reading of a list comprehension over a walk -/
theorem lc_read {K : PySem.W.Frag} {n : Nat} {tg : Expr} {is : List Nat} {ρ1 : Rs} {ρb : α → Rs} {mi : Res (List α)} {mt : α → Res Bool} {me : α → Res β} {vs : List Nat} {σ : St} {H : Hp} {Q : VK}
    (his : ∀ j ∈ is, j ∈ vs) (w1 : ∀ p ∈ ρ1, p ∈ ρ ∧ p.1 ∉ vs) (h : rdF K n W ρ ((do
    let xs ← mi
    lcR mt me xs).map toD) σ H Q) :
    tLc (rdI K n W ρ (mi.map fun xs => xs.map toD)) (fun v σ H Q => ∃ x, rdG K n is ρ1 (toD x) (ρb x) v σ H Q) (fun σ H Q => ∃ x, rdT K n W0 (ρb x) (mt x) σ H Q) (fun σ H Q => ∃ x, rdV K n W0 (ρb x) ((me x).map toD) σ H Q) vs σ H Q := by
  obtain ⟨F0, H0, F, R, p⟩ := h
  refine ⟨F0, H0, F, R, ?_⟩
  cases mi with
  | exc c i => exact p
  | stuck => exact p
  | ok xs =>
    intro J F1 H1 g it hz D nD
    have p1 : PostF K W F H ((lcR mt me xs).map toD) Q := p
    cases el : lcR mt me xs with
    | exc c i => exact absurd el lcR_no
    | stuck => rw [el] at p1; exact p1.elim
    | ok out =>
      rw [el] at p1
      have R1 : Rho K n F0 H0 F1 H1 (wipe σ vs) ρ1 := (R.grow g).wipe w1
      have z0 : H0 D = none := sub_free R.base.h (sub_free g.h nD)
      -- W: i turns are done, acc is made, the rest gives the rest
      refine ⟨fun i m H' => ∃ F' acc zs, m = xs.length - i ∧ i ≤ xs.length ∧ LcW K n F0 H0 F1 (wipe σ vs) ρ1 D F' H' acc ∧ lcR mt me (xs.drop i) = .ok zs ∧ acc ++ zs = out ∧ acc.length ≤ i ∧ Grow F H F' H',
        ⟨xs.length, F1, [], out, by simp, Nat.zero_le _, ⟨R1.grow (.own R1.fh nD), fun _ _ e => e, sub_free R1.fh nD, z0, fun j e m q => ?_, [], upd_same, .nil⟩, el, rfl, Nat.le_refl _, g.trans (.own g.fh nD)⟩, ?_⟩
      · obtain ⟨a, e1, c1, _⟩ := R1.ow j e m
        rw [q] at e1; cases e1
        exact c1.there nD
      · rintro i m H2 ⟨F2, acc, zs, rfl, hi2, L, e2, eo, ha, g2⟩
        by_cases hlt : i < xs.length
        · have ex : xs[i]? = some xs[i] := List.getElem?_eq_getElem hlt
          rw [drop_cons ex, lcR_cons] at e2
          obtain ⟨b, eb, e2⟩ := Res.eq_ok_of_bind e2
          refine .inr ⟨it.go i F2 H2 L.sf L.R.fh (by simpa using hlt), fun H' => ∃ F' acc zs, LcW K n F0 H0 F1 (wipe σ vs) ρ1 D F' H' acc ∧ lcR mt me (xs.drop (i + 1)) = .ok zs ∧ acc ++ zs = out ∧ acc.length ≤ i + 1 ∧ Grow F H F' H',
            fun H' ⟨F', acc', zs', L', e', eo', ha', g'⟩ => ⟨xs.length - (i + 1), by omega, F', acc', zs', rfl, hlt, L', e', eo', ha', g'⟩, fun v H3 y => ?_⟩
          obtain ⟨F3, g3, r3⟩ := it.yld i F2 H2 (toD xs[i]) v H3 L.sf L.R.fh (by rw [List.getElem?_map, ex]; rfl) y
          refine ⟨xs[i], F0, H0, F3, L.R.grow g3, r3, fun σ4 R4 k4 => ⟨?_, xs[i], F0, H0, F3, R4, ?_⟩⟩
          · rw [wipe_eq (σ := wipe σ vs) (by rw [R4.len, L.R.len]) fun j hj => k4 j fun hm => hj (his j hm)]
            exact wipe_eq (by rw [wipe_length]) fun j hj => by rw [wipe_at, if_neg hj]
          · -- what a step that grows keeps
            have keep : ∀ {F4 H4 : Hp}, Grow F2 H2 F4 H4 → LcW K n F0 H0 F1 (wipe σ vs) ρ1 D F4 H4 acc := fun {F4 H4} g4 => by
              obtain ⟨ws, e1, rw1⟩ := L.lst
              exact ⟨L.R.grow g4, L.sf.trans g4.f, by rw [g4.fn D (by rw [e1]; exact .lst)]; exact L.zf, z0, L.no, ws, g4.h _ _ e1, rw1.sub g4.f⟩
            cases et : mt xs[i] with
            | exc c i => rw [et] at eb; cases eb
            | stuck => rw [et] at eb; cases eb
            | ok b' =>
              rw [et] at eb
              cases eb
              intro F4 H4 g4
              cases b with
              | false => exact ⟨F4, acc, zs, keep (g3.trans g4), e2, eo, Nat.le_succ_of_le ha, g2.trans (g3.trans g4)⟩
              | true =>
                simp only [if_true] at e2
                obtain ⟨y', ey, e2⟩ := Res.eq_ok_of_bind e2
                obtain ⟨zs', ez, e2⟩ := Res.eq_ok_of_bind e2
                cases e2
                refine ⟨xs[i], F0, H0, F4, R4.grow g4, ?_⟩
                cases em : me xs[i] with
                | exc c i => rw [em] at ey; cases ey
                | stuck => rw [em] at ey; cases ey
                | ok y'' =>
                  rw [em] at ey
                  cases ey
                  intro u F5 H5 g5 r5
                  have L5 := keep ((g3.trans g4).trans g5)
                  obtain ⟨ws, e1, rw1⟩ := L5.lst
                  have hlen : ws.length = acc.length := by rw [rw1.length, List.length_map]
                  refine ⟨ws, e1, ?_, F5, acc ++ [y'], zs', ⟨⟨L5.R.len, ⟨L5.R.base.f, fun b o q => ?_, fun b o q => ?_, L5.R.base.fn⟩, L5.R.sh, fun j d m => ?_, L5.R.inj⟩, L5.sf, L5.zf, z0, L5.no, ws ++ [u], upd_same, ?_⟩, ez, by rw [List.append_assoc]; exact eo, by rw [List.length_append]; exact Nat.succ_le_succ ha, ?_⟩
                  · have h1 : xs.length ≤ sizeLine := by simpa using hz
                    rw [hlen]; omega
                  · rw [upd_ne (ne_of_none q z0)]; exact L5.R.base.h b o q
                  · rw [upd_ne (ne_of_none q L5.zf)]; exact L5.R.fh b o q
                  · obtain ⟨a, e6, c6, z6⟩ := L5.R.ow j d m
                    have hne : a ≠ D := fun q => L5.no j d m (by rw [e6, q])
                    exact ⟨a, e6, ⟨c6.1, by rw [upd_ne hne]; exact c6.2⟩, z6⟩
                  · rw [show (acc ++ [y']).map toD = acc.map toD ++ [toD y'] by simp]
                    exact rw1.append (.cons r5 .nil)
                  · have g6 := g2.trans ((g3.trans g4).trans g5)
                    have hD : H D = none := sub_free g.h nD
                    exact ⟨g6.f, fun b o q => by rw [upd_ne (ne_of_none q hD)]; exact g6.h b o q, fun b o q => by rw [upd_ne (ne_of_none q L5.zf)]; exact g6.fh b o q, g6.fn⟩
        · have e : i = xs.length := by omega
          subst e
          rw [List.drop_length] at e2
          cases e2
          rw [List.append_nil] at eo
          subst eo
          obtain ⟨ws, e1, rw1⟩ := L.lst
          exact .inl ⟨it.stop _ F2 H2 L.sf L.R.fh (by simp), p1 D F2 H2 g2 (sub_free g.h nD) ⟨L.zf, .inl ⟨ws, _, e1, rw1, rfl⟩⟩⟩
/-- [elt for tg in iter if ..] -/
theorem XF.lc {elt tg iter : Expr} {ifs : List Expr} {scope : Scope} {is : List Nat} (own : List (Str × Nat)) (ks : List Nat) {mi : Res (List α)} {mt : α → Res Bool} {me : α → Res β} (ρ1 : Rs) (ρb : α → Rs) (hc : X.calm = true) (hN : X.N.Nodup) (hi : XI X W ρ tg iter mi)
    (ok : blkC X.N X.env.scope scope own = true) (hg : ∀ x (s : Shared) (H : Hp) (C : Addr) (cl : List (Str × Addr)) (fp : List Addr), XG (X.blk s H scope (compEnvC scope cl C X.env) fp) is ρ1 tg (toD x) (ρb x))
    (ht : ∀ x (s : Shared) (H : Hp) (C : Addr) (cl : List (Str × Addr)) (fp : List Addr), XTs (X.blk s H scope (compEnvC scope cl C X.env) fp) W0 (ρb x) ifs (mt x))
    (he : ∀ x (s : Shared) (H : Hp) (C : Addr) (cl : List (Str × Addr)) (fp : List Addr), XV (X.blk s H scope (compEnvC scope cl C X.env) fp) W0 (ρb x) elt (me x))
    (hρ : ρ1 = keepAt ρ ks := by rfl) (ho : okK ρ (own.map (·.2)) ks = true := by rfl) (his : (is.all fun j => (own.map (·.2)).contains j) = true := by rfl) (hs : ∀ x, foldedSetIterable iter X.env x = pure x := by intro _; rfl) :
    XF X W ρ (.ListComp elt [⟨tg, iter, ifs, 0⟩] scope pos) (do
    let xs ← mi
    lcR mt me xs) :=
  PE.imp (pe_lc hc hN hi (blkOk_by ok) (fun s H C cl fp => PG.ex fun x => hg x s H C cl fp) (fun s H C cl fp => PTs.ex fun x => ht x s H C cl fp) (fun s H C cl fp => PE.ex fun x => he x s H C cl fp) hs) fun σ H Q h =>
    lc_read (tg := tg) (fun j hj => by simpa [List.contains_iff_mem] using List.all_eq_true.mp his j hj) (fun p hp => by rw [hρ] at hp; exact ⟨keep_mem hp, keep_ne hp ho⟩) h
/-- name = [..], what is made is this name's own -/
theorem XB.asgLc (i : Nat) {nm : Str} {py : Pos} {elt tg iter : Expr} {ifs : List Expr} {scope : Scope} {is : List Nat} (own : List (Str × Nat)) (ks ks2 : List Nat) {rest : List Stmt} {mi : Res (List α)} {mt : α → Res Bool} {me : α → Res β} {mr : List β → Res τ} {fin : τ → Fi} (ρ1 : Rs) (ρb : α → Rs) (ρ' : List β → Rs)
    (hc : X.calm = true) (hN : X.N.Nodup) (hi : XI X W ρ tg iter mi)
    (ok : blkC X.N X.env.scope scope own = true) (hg : ∀ x (s : Shared) (H : Hp) (C : Addr) (cl : List (Str × Addr)) (fp : List Addr), XG (X.blk s H scope (compEnvC scope cl C X.env) fp) is ρ1 tg (toD x) (ρb x))
    (ht : ∀ x (s : Shared) (H : Hp) (C : Addr) (cl : List (Str × Addr)) (fp : List Addr), XTs (X.blk s H scope (compEnvC scope cl C X.env) fp) W0 (ρb x) ifs (mt x))
    (he : ∀ x (s : Shared) (H : Hp) (C : Addr) (cl : List (Str × Addr)) (fp : List Addr), XV (X.blk s H scope (compEnvC scope cl C X.env) fp) W0 (ρb x) elt (me x)) (hr : ∀ ys, XB X W (ρ' ys) rest (mr ys) fin)
    (hsw : swapsWith (.ListComp elt [⟨tg, iter, ifs, 0⟩] scope pos) (some (.Name nm py)) pos.line X.env = pure true)
    (hρ : ρ1 = keepAt ρ ks := by rfl) (ho : okK ρ (own.map (·.2)) ks = true := by rfl) (his : (is.all fun j => (own.map (·.2)).contains j) = true := by rfl)
    (hρ' : ∀ ys, ρ' ys = (i, SV.ow (toD ys)) :: keepAt ρ ks2 := by intro _; rfl) (ho' : okK ρ [i] ks2 = true := by rfl) (hi' : X.N[i]? = some nm := by rfl) (hyl : X.env.scope.names.lookup nm = some .local := by rfl) (hs : ∀ x, foldedSetIterable iter X.env x = pure x := by intro _; rfl) {pos' : Pos} (hpos : pos'.line = pos.line := by rfl) :
    XB X W ρ (.Assign [.Name nm py] (.ListComp elt [⟨tg, iter, ifs, 0⟩] scope pos) pos' :: rest) (do
    let xs ← mi
    let ys ← lcR mt me xs
    mr ys) fin := by
  refine PSs.imp (pss_cons (ps_setLc (i := i) (own := own) hc hN hi' hyl (by rw [hpos]; exact hsw) hi (blkOk_by ok) (fun s H C cl fp => PG.ex (t := fun x => rdG X.K X.N.length is ρ1 (toD x) (ρb x)) fun x => hg x s H C cl fp) (fun s H C cl fp => PTs.ex (t := fun x => rdT X.K X.N.length W0 (ρb x) (mt x)) fun x => ht x s H C cl fp) (fun s H C cl fp => PE.ex (t := fun x => rdV X.K X.N.length W0 (ρb x) ((me x).map toD)) fun x => he x s H C cl fp) hs) (PSs.ex hr)) fun D σ H ⟨F0, H0, F, R, p⟩ => ?_
  have p1 : PostS X.K X.N.length W F0 H0 F ((mi >>= fun xs => lcR mt me xs) >>= mr) fin D := by
    rw [Res.bind_assoc']; exact p
  unfold tSeq tAsg
  refine lc_read (W := W) (tg := tg) (ρ := ρ) (ρ1 := ρ1) (is := is) (ρb := ρb) (mi := mi) (mt := mt) (me := me) (vs := own.map (·.2)) (fun j hj => by simpa [List.contains_iff_mem] using List.all_eq_true.mp his j hj) (fun p hp => by rw [hρ] at hp; exact ⟨keep_mem hp, keep_ne hp ho⟩) ⟨F0, H0, F, R, ?_⟩
  have q := PostS.bindF R p1
  cases em : (mi >>= fun xs => lcR mt me xs) with
  | exc c i => rw [em] at q; exact q
  | stuck => rw [em] at q; exact q
  | ok ys =>
    rw [em] at p1
    intro a F1 H1 g z c
    refine ⟨ys, F0, H0, F1, ?_, PostS.sub g.f p1⟩
    refine (R.grow g).setO (List.getElem?_eq_some_iff.mp hi').1 c (sub_free R.base.h z) (fun j e m hj q => ?_) (by rw [hρ']; exact put_w ho')
    obtain ⟨b, e1, c1, _⟩ := R.ow j e m
    rw [q] at e1; cases e1
    exact c1.there z

/-! ### defs -/
/-- R: the arguments' data and what the def gives for them -/
def spR (K : PySem.W.Frag) (R : List PyData → Res PyData → Prop) : Sp := fun vs H Q E => ∃ F ds r, R ds r ∧ Sub F H ∧ RpAll K F vs ds ∧ PostV K (fun c d _ H => E c d H) F H r Q
abbrev FnV (P : Program) (w : World) (K : PySem.W.Frag) (mg : Str → Option Value) (base : Heap) (k : Nat) (f : Addr) (fd : FuncData) (ps : List Str) (R : List PyData → Res PyData → Prop) : Prop := FnG P w K mg base (L2.CX P w) k f fd ps (spR K R)
/-- the slots at the entry -/
def entry : Nat → List PyData → Rs
  | _, [] => []
  | i, d :: ds => (i, SV.sh d) :: entry (i + 1) ds
theorem entry_mem : ∀ {ds : List PyData} {i j : Nat} {sv : SV}, (j, sv) ∈ entry i ds → ∃ k d, j = i + k ∧ sv = .sh d ∧ ds[k]? = some d
  | [], _, _, _, h => nomatch h
  | d :: ds, i, j, sv, h => by
    rcases List.mem_cons.mp h with e | h
    · cases e
      exact ⟨0, d, rfl, rfl, rfl⟩
    · obtain ⟨k, d', e1, e2, e3⟩ := entry_mem h
      exact ⟨k + 1, d', by omega, e2, e3⟩
theorem rho_start {K : PySem.W.Frag} {N : List Str} {F H : Hp} {vs : List V} {ds : List PyData} (s : Sub F H) (r : RpAll K F vs ds) (hl : vs.length ≤ N.length) : Rho K N.length F H F H (L2.start N vs) (entry 0 ds) := by
  refine ⟨by unfold L2.start; rw [List.length_append, List.length_map, List.length_replicate]; omega, .refl s, fun i d m => ?_, fun i d m => ?_, fun i j d e a m1 m2 _ _ => ?_⟩
  · obtain ⟨k, d', rfl, e2, e3⟩ := entry_mem m
    cases e2
    obtain ⟨v, h1, h2⟩ := r.get e3
    refine ⟨v, ?_, h2⟩
    unfold L2.start
    have hk := (List.getElem?_eq_some_iff.mp h1).1
    rw [List.getElem?_append_left (by simpa using by omega), List.getElem?_map, Nat.zero_add, h1]; rfl
  · obtain ⟨k, d', _, e2, _⟩ := entry_mem m
    cases e2
  · obtain ⟨k, d', _, e2, _⟩ := entry_mem m1
    cases e2
section
variable {P : Program} {w : World} {K : PySem.W.Frag} {mg : Str → Option Value} {base : Heap} {x qual : Str} {params : Arguments} {body : List Stmt} {scope : Scope} {f : Addr} {fd : FuncData} {N ps : List Str} {k : Nat} {R : List PyData → Res PyData → Prop}
abbrev defX (P : Program) (w : World) (K : PySem.W.Frag) (mg : Str → Option Value) (base : Heap) (N : List Str) (qual : Str) (scope : Scope) (f : Addr) (cdv : Value) (A : Around) (outer : List Env) (s : Shared) (H : Hp) (E : XK) : Cx := cxOf (L2.CX P w) P w K mg base N qual scope f cdv A outer s H E
abbrev defW (E : XK) : WX := fun c d _ H => E c d H
/-- a def's body does what R says: each way either returns, or comes to the end (None) -/
theorem fn_def {τ : List PyData → Res PyData → Type} (F : FunD K x qual params body scope [] [] f fd) (S : FnScope N ps scope) (hR : ∀ ds r, R ds r → ds.length = ps.length) (hl : ps.length ≤ N.length)
    (hbody : ∀ (cdv : Value) (A : Around) (outer : List Env) (s : Shared) (H : Hp) (E : XK), GRoom k (A.deeper (envOfC qual scope s.heap.objs.size f cdv)) → ∀ ds r, R ds r →
      ∃ (τ : Type) (m : Res τ) (fin : τ → Fi), XB (defX P w K mg base N qual scope f cdv A outer s H E) (defW E) (entry 0 ds) body m fin ∧ (∀ c i, m = .exc c i → r = .exc c i) ∧ (m = .stuck → r = .stuck) ∧
        ∀ t, m = .ok t → (∃ d, fin t = .rt d ∧ r = .ok d) ∨ (∃ ρ', fin t = .nx ρ' ∧ r = .ok .none)) : FnV P w K mg base (k + 1) f fd ps R := by
  refine FnG.of F S (fun vs H Q E ⟨F1, ds, r, hr, _, rv, _⟩ => rv.length.trans (hR ds r hr)) fun cdv A outer s H vs Q E hr ⟨F1, ds, r, hR1, s1, rv, p⟩ => ?_
  obtain ⟨τ, m, fin, hb, hx, hst, hok⟩ := hbody cdv A outer s H E hr ds r hR1
  refine ⟨_, hb, F1, H, F1, rho_start s1 rv (by rw [rv.length, hR ds r hR1]; exact hl), ?_⟩
  cases m with
  | exc c i =>
    rw [hx c i rfl] at p
    exact p
  | stuck =>
    rw [hst rfl] at p
    exact p
  | ok t =>
    rcases hok t rfl with ⟨d, e1, e2⟩ | ⟨ρ', e1, e2⟩
    · rw [e2] at p
      show (match fin t with
        | .nx ρ' => _
        | .rt d => _
        | .bk ρ' => _)
      rw [e1]
      exact fun v F' H' g r' => p v F' H' g r'
    · rw [e2] at p
      show (match fin t with
        | .nx ρ' => _
        | .rt d => _
        | .bk ρ' => _)
      rw [e1]
      exact fun σ' F' H' R' _ => p .non F' H' R'.base .non
end
/-- a def that returns -/
theorem fn_ret {P : Program} {w : World} {K : PySem.W.Frag} {mg : Str → Option Value} {base : Heap} {x qual : Str} {params : Arguments} {body : List Stmt} {scope : Scope} {f : Addr} {fd : FuncData} {N ps : List Str} {k : Nat} {ι β : Type} [Enc β] {args : ι → List PyData} {m : ι → Res β}
    (F : FunD K x qual params body scope [] [] f fd) (S : FnScope N ps scope) (hR : ∀ i, (args i).length = ps.length) (hl : ps.length ≤ N.length := by decide)
    (hbody : ∀ (cdv : Value) (A : Around) (outer : List Env) (s : Shared) (H : Hp) (E : XK), GRoom k (A.deeper (envOfC qual scope s.heap.objs.size f cdv)) → ∀ i,
      XB (defX P w K mg base N qual scope f cdv A outer s H E) (defW E) (entry 0 (args i)) body (m i) fun b => .rt (toD b)) :
    FnV P w K mg base (k + 1) f fd ps (fun ds r => ∃ i, ds = args i ∧ r = (m i).map toD) := by
  refine fn_def (τ := fun _ _ => Unit) F S (fun ds r ⟨i, e, _⟩ => by rw [e]; exact hR i) hl fun cdv A outer s H E hr ds r ⟨i, e1, e2⟩ => ?_
  subst e1 e2
  refine ⟨β, m i, _, hbody cdv A outer s H E hr i, fun c j e => by rw [e]; rfl, fun e => by rw [e]; rfl, fun t e => .inl ⟨toD t, rfl, by rw [e]; rfl⟩⟩
/-- a def that comes to its end -/
theorem fn_proc {P : Program} {w : World} {K : PySem.W.Frag} {mg : Str → Option Value} {base : Heap} {x qual : Str} {params : Arguments} {body : List Stmt} {scope : Scope} {f : Addr} {fd : FuncData} {N ps : List Str} {k : Nat} {ι : Type} {args : ι → List PyData} {m : ι → Res Unit}
    (F : FunD K x qual params body scope [] [] f fd) (S : FnScope N ps scope) (hR : ∀ i, (args i).length = ps.length) (hl : ps.length ≤ N.length := by decide)
    (hbody : ∀ (cdv : Value) (A : Around) (outer : List Env) (s : Shared) (H : Hp) (E : XK), GRoom k (A.deeper (envOfC qual scope s.heap.objs.size f cdv)) → ∀ i,
      XB (defX P w K mg base N qual scope f cdv A outer s H E) (defW E) (entry 0 (args i)) body (m i) fun _ => .nx []) :
    FnV P w K mg base (k + 1) f fd ps (fun ds r => ∃ i, ds = args i ∧ r = (m i).map toD) := by
  refine fn_def (τ := fun _ _ => Unit) F S (fun ds r ⟨i, e, _⟩ => by rw [e]; exact hR i) hl fun cdv A outer s H E hr ds r ⟨i, e1, e2⟩ => ?_
  subst e1 e2
  refine ⟨Unit, m i, _, hbody cdv A outer s H E hr i, fun c j e => by rw [e]; rfl, fun e => by rw [e]; rfl, fun t e => .inr ⟨[], rfl, by rw [e]; rfl⟩⟩

/-! ### calls -/
theorem XV.callG {f : Addr} {fd : FuncData} {ps : List Str} {R : List PyData → Res PyData → Prop} {k : Nat} {x : Str} {p : Pos} {e : Expr} {es : List Expr} {m : Res (List PyData)} {r : List PyData → Res PyData} (G : FnV X.prog X.w X.K X.mg X.base k f fd ps R) (hr : GRoom k X.A) (tk : Takes X W)
    (hm : X.mg x = some (.ref f)) (hk : PySem.W.keepIn X.K (.ref f) = true) (hb : Binds X.K fd ps []) (ha : XA X W ρ (e :: es) m) (hR : ∀ ds, m = .ok ds → R ds (r ds)) (hg : Gl X x := by rfl)
    (hdb : (x == ("__debug__" : Str)) = false := by decide) (he : starEach (e :: es) X.env = (false, eval e X.env) :: starEach es X.env := by rfl) (hpl : (backTo pos (starEach es X.env)).any (·.1) = false := by rfl) :
    PE X (.Call (.Name x p) (e :: es) [] pos) (rdV X.K X.N.length W ρ (m >>= r)) := by
  refine PE.imp (pe_callG (E := fun c d H => ∀ σ, W c d σ H) G hr hg hm hk hb (passes_call tk fun c d σ H h => h σ) ha hdb he hpl) fun σ H Q ⟨F0, H0, F, Rh, p⟩ => ⟨F0, H0, F, Rh, ?_⟩
  cases m with
  | exc c i => exact p
  | stuck => exact p
  | ok ds =>
    intro vs F1 H1 g1 r1
    have p1 : PostV X.K W F1 H1 (r ds) Q := PostV.grow g1 p
    refine ⟨F1, ds, r ds, hR ds rfl, g1.fh, r1, ?_⟩
    cases er : r ds with
    | ok d => rw [er] at p1; exact p1
    | exc c i => rw [er] at p1; exact fun dx F' H' σ' g x n σ => p1 dx F' H' σ g x n
    | stuck => rw [er] at p1; exact p1
end
end Vs
end
section
set_option Elab.async false
set_option linter.all false
set_option maxRecDepth 100000
set_option maxHeartbeats 1000000
/-! Vs7: order, sorted, sets of ints, repr, dicts with plain keys. -/
namespace Vs
open Enc (toD)
open PySem PySem.Spec PyProof.Rows L2

/-! ### order -/
class PyLt (α : Type) [Enc α] [DecidableEq α] [PyEq α] [Ord1 α] : Prop where
  ok : ∀ a b : α, PySem.W.dataLt (toD a) (toD b) = Ord1.lt a b
  al : ∀ a b : α, PySem.W.alike (toD a) (toD b) = true
  nn : ∀ a : α, toD a ≠ .none
  sb : ∀ xs : List α, Ord1.sb xs = true → PySem.W.Sortable (xs.map toD)
section
variable {α β γ δ : Type} [Enc α] [Enc β] [Enc γ] [Enc δ] [DecidableEq α] [DecidableEq β] [DecidableEq γ] [DecidableEq δ] [PyEq α] [PyEq β] [PyEq γ] [PyEq δ] [Ord1 α] [Ord1 β] [Ord1 γ] [Ord1 δ]
instance : PyLt Int := ⟨fun a b => PySem.W.dataLt_int a b, fun a b => by show PySem.W.alike (.int a) (.int b) = true; simp [PySem.W.alike], fun a h => (by cases h), fun xs _ => PySem.W.Sortable.others fun b => ⟨fun h => (by cases h), fun _ h => (by cases h)⟩⟩
instance : PyLt PStr := ⟨fun a b => PySem.W.dataLt_str a.1 b.1, fun a b => by show PySem.W.alike (.str a.1) (.str b.1) = true; simp [PySem.W.alike], fun a h => (by cases h), fun xs _ => PySem.W.Sortable.others fun b => ⟨fun h => (by cases h), fun _ h => (by cases h)⟩⟩
instance : PyLt Bool := ⟨fun a b => by
    show PySem.W.dataLt (.bool a) (.bool b) = _
    rw [PySem.W.dataLt_bool]
    cases a <;> cases b <;> decide, fun a b => by show PySem.W.alike (.bool a) (.bool b) = true; simp [PySem.W.alike], fun a h => (by cases h), fun xs _ => PySem.W.Sortable.others fun b => ⟨fun h => (by cases h), fun _ h => (by cases h)⟩⟩
theorem row_lt [PyLt α] : ∀ xs ys : List α, PyProof.Rows.lexLt PyProof.Rows.itemOrd (PySem.W.keyToksAll (xs.map toD)) (PySem.W.keyToksAll (ys.map toD)) = ltRow xs ys
  | [], [] => PyProof.Rows.lex_irrefl _
  | [], y :: ys => by simp only [List.map_nil, List.map_cons, PySem.W.keyToksAll, ltRow, PyProof.Rows.lexLt]; rfl
  | x :: xs, [] => by simp only [List.map_nil, List.map_cons, PySem.W.keyToksAll, ltRow, PyProof.Rows.lexLt]; rfl
  | x :: xs, y :: ys => by
    rw [List.map_cons, List.map_cons, PySem.W.dataLt_cons (PyLt.al x y), PyEq.eqv x y, row_lt xs ys, PyLt.ok x y]
    show _ = if x = y then ltRow xs ys else Ord1.lt x y
    by_cases h : x = y <;> simp [h]
theorem row_al [PyLt α] : ∀ xs ys : List α, PySem.W.alikeAll (xs.map toD) (ys.map toD) = true
  | [], _ => by simp [PySem.W.alikeAll]
  | _ :: _, [] => by simp [PySem.W.alikeAll]
  | x :: xs, y :: ys => by
    rw [List.map_cons, List.map_cons, PySem.W.alikeAll, PyLt.al x y, row_al xs ys]; rfl
instance [PyLt α] : PyLt (List α) := ⟨fun a b => (PySem.W.dataLt_list _ _).trans (row_lt a b), fun a b => by
    show PySem.W.alike (.list (a.map toD)) (.list (b.map toD)) = true
    rw [PySem.W.alike]; exact row_al a b, fun a h => (by cases h), fun xs _ => PySem.W.Sortable.others fun b => ⟨fun h => (by cases h), fun _ h => (by cases h)⟩⟩
instance [PyLt α] : PyLt (Tup α) := ⟨fun a b => (PySem.W.dataLt_tuple _ _).trans (row_lt a.l b.l), fun a b => by
    show PySem.W.alike (.tuple (a.l.map toD)) (.tuple (b.l.map toD)) = true
    rw [PySem.W.alike]; exact row_al a.l b.l, fun a h => (by cases h), fun xs h => .inl fun d hd => by
    obtain ⟨b, hb, rfl⟩ := List.mem_map.mp hd
    have := List.all_eq_true.mp h b hb
    cases e : b.l with
    | nil => rw [e] at this; cases this
    | cons x r => exact ⟨toD x, r.map toD, by show PyData.tuple (b.l.map toD) = _; rw [e]; rfl⟩⟩
theorem lex_nil : PyProof.Rows.lexLt PyProof.Rows.itemOrd (PySem.W.keyToksAll []) (PySem.W.keyToksAll []) = false := PyProof.Rows.lex_irrefl _
theorem dec_if {p : Prop} [Decidable p] {A : Type} (x y : A) : (if decide p = true then x else y) = if p then x else y := by
  by_cases h : p <;> simp [h]
theorem lt_irr [PyLt α] (a : α) : Ord1.lt a a = false := by rw [← PyLt.ok a a]; exact PyProof.Rows.lex_irrefl _
instance [PyLt α] [PyLt β] : PyLt (α × β) := ⟨fun a b => by
    show PySem.W.dataLt (.tuple [toD a.1, toD a.2]) (.tuple [toD b.1, toD b.2]) = if a.1 = b.1 then Ord1.lt a.2 b.2 else Ord1.lt a.1 b.1
    rw [PySem.W.dataLt_tuple, PySem.W.dataLt_cons (PyLt.al _ _), PySem.W.dataLt_cons (PyLt.al _ _), lex_nil, PyEq.eqv, PyEq.eqv, PyLt.ok, PyLt.ok, dec_if, dec_if]
    by_cases h : a.2 = b.2
    · rw [if_pos h, h, lt_irr]
    · rw [if_neg h], fun a b => by
    show PySem.W.alike (.tuple [toD a.1, toD a.2]) (.tuple [toD b.1, toD b.2]) = true
    simp [PySem.W.alike, PySem.W.alikeAll, PyLt.al], fun a h => (by cases h), fun xs _ => PySem.W.Sortable.tuples fun b => ⟨_, _, rfl⟩⟩
instance [PyLt α] [PyLt β] [PyLt γ] : PyLt (T3 α β γ) := ⟨fun a b => by
    show PySem.W.dataLt (.tuple [toD a.a, toD a.b, toD a.c]) (.tuple [toD b.a, toD b.b, toD b.c]) = if a.a = b.a then (if a.b = b.b then Ord1.lt a.c b.c else Ord1.lt a.b b.b) else Ord1.lt a.a b.a
    rw [PySem.W.dataLt_tuple, PySem.W.dataLt_cons (PyLt.al _ _), PySem.W.dataLt_cons (PyLt.al _ _), PySem.W.dataLt_cons (PyLt.al _ _), lex_nil, PyEq.eqv, PyEq.eqv, PyEq.eqv, PyLt.ok, PyLt.ok, PyLt.ok, dec_if, dec_if, dec_if]
    by_cases h : a.c = b.c
    · rw [if_pos h, h, lt_irr]
    · rw [if_neg h], fun a b => by
    show PySem.W.alike (.tuple [toD a.a, toD a.b, toD a.c]) (.tuple [toD b.a, toD b.b, toD b.c]) = true
    simp [PySem.W.alike, PySem.W.alikeAll, PyLt.al], fun a h => (by cases h), fun xs _ => PySem.W.Sortable.tuples fun b => ⟨_, _, rfl⟩⟩
instance [PyLt α] [PyLt β] [PyLt γ] [PyLt δ] : PyLt (T4 α β γ δ) := ⟨fun a b => by
    show PySem.W.dataLt (.tuple [toD a.a, toD a.b, toD a.c, toD a.d]) (.tuple [toD b.a, toD b.b, toD b.c, toD b.d]) = if a.a = b.a then (if a.b = b.b then (if a.c = b.c then Ord1.lt a.d b.d else Ord1.lt a.c b.c) else Ord1.lt a.b b.b) else Ord1.lt a.a b.a
    rw [PySem.W.dataLt_tuple, PySem.W.dataLt_cons (PyLt.al _ _), PySem.W.dataLt_cons (PyLt.al _ _), PySem.W.dataLt_cons (PyLt.al _ _), PySem.W.dataLt_cons (PyLt.al _ _), lex_nil, PyEq.eqv, PyEq.eqv, PyEq.eqv, PyEq.eqv, PyLt.ok, PyLt.ok, PyLt.ok, PyLt.ok, dec_if, dec_if, dec_if, dec_if]
    by_cases h : a.d = b.d
    · rw [if_pos h, h, lt_irr]
    · rw [if_neg h], fun a b => by
    show PySem.W.alike (.tuple [toD a.a, toD a.b, toD a.c, toD a.d]) (.tuple [toD b.a, toD b.b, toD b.c, toD b.d]) = true
    simp [PySem.W.alike, PySem.W.alikeAll, PyLt.al], fun a h => (by cases h), fun xs _ => PySem.W.Sortable.tuples fun b => ⟨_, _, rfl⟩⟩
end

/-! ### sorted -/
theorem each_rp {X : Cx} {pins : List (Addr × Obj)} {σ : St} {F H : Hp} {s : Shared} {α : Type} [Enc α] [DecidableEq α] [PyEq α] (I : Inv X pins σ H s) (sf : Sub F H) : ∀ {vs : List V} {us : List Value} {xs : List α}, RpAll X.K F vs (xs.map toD) → Vals vs us →
    PySem.W.EachIs (fun u x => ∃ v, RelV v u ∧ Rp X.K F v (toD x)) us xs ∧ PySem.W.EachIs (fun u x => ∃ as, Reads s.heap u (toD x) as) us xs
  | _, _, [], r, q => by
    cases r; cases q
    exact ⟨.nil, .nil⟩
  | _, _, x :: xs, r, q => by
    rw [List.map_cons] at r
    cases r with
    | cons r1 r2 =>
      cases q with
      | cons q1 q2 =>
        obtain ⟨e1, e2⟩ := each_rp I sf r2 q2
        exact ⟨.cons ⟨_, q1, r1⟩ e1, .cons (Dp.reads I _ _ _ (r1.dp sf (PyEq.lay x)) q1) e2⟩
theorem each_back {K : PySem.W.Frag} {F : Hp} {α : Type} [Enc α] : ∀ {us : List Value} {xs : List α}, PySem.W.EachIs (fun u x => ∃ v, RelV v u ∧ Rp K F v (toD x)) us xs → ∃ vs, Vals vs us ∧ RpAll K F vs (xs.map toD)
  | _, _, .nil => ⟨[], .nil, .nil⟩
  | _, _, .cons ⟨v, r1, r2⟩ t => by
    obtain ⟨vs, q1, q2⟩ := each_back t
    exact ⟨v :: vs, .cons r1 q1, .cons r2 q2⟩
theorem le_same {α : Type} [Enc α] [DecidableEq α] [PyEq α] [Ord1 α] [PyLt α] : (PySem.W.dataLe false (toD : α → PyData)) = fun a b => !Ord1.lt b a := by
  rw [PySem.W.dataLe_eq]
  funext a b
  show (!PySem.W.dataLt (toD b) (toD a)) = _
  rw [PyLt.ok]
section
variable {X : Cx} {W : WX} {ρ : Rs} {pos : Pos} {α β γ δ S τ Ω : Type} [Enc α] [Enc β] [Enc γ] [Enc δ]
theorem sortL_ok [Ord1 α] {xs ys : List α} (h : sortL xs = .ok ys) : Ord1.sb xs = true ∧ ys = sortP xs := by
  unfold sortL at h
  split at h
  · cases h; exact ⟨by assumption, rfl⟩
  · cases h
theorem sortL_no [Ord1 α] {xs : List α} {c : Str} {i : Int} : sortL xs ≠ .exc c i := by
  unfold sortL; split <;> intro h <;> cases h
/-- sorted(xs) -/
theorem b_sorted [DecidableEq α] [PyEq α] [Ord1 α] [PyLt α] (hu : X.A.units + 64 < cLine) (hd : PyEq.dp α ≤ 60 := by decide) : C1F X (.builtin "sorted") (sortL : List α → Res (List α)) := ⟨fun pins s σ H xs us Q I rs q => by
  obtain ⟨F, x, z, v, sf, e, r, ez, q⟩ := q
  obtain ⟨h1, rfl⟩ := sortL_ok ez
  subst e
  obtain ⟨a, vs, rfl, h2, h3⟩ := r.lst_of sf
  obtain ⟨u, rfl, ru⟩ := vals1 rs
  obtain rfl : u = Value.ref a := ru
  obtain ⟨its, rv, pl, hz⟩ := I.list (.inl (.inl h2))
  obtain ⟨e1, e2⟩ := each_rp I sf h3 rv
  have hn : H (s.heap.objs.size + 1) = none := I.hok.fresh (Nat.le_succ _)
  refine PySem.W.sorted_data (enc := toD) (R := fun u x => ∃ v, RelV v u ∧ Rp X.K F v (toD x)) pl.isList e1 e2 (PySem.W.AllAlike.of fun b b' => PyLt.al b b') (PyLt.sb x h1) (by rw [← e1.length, ← rv.length]; exact hz) (fun b _ => by
    have := PyEq.dep b
    omega) fun out ho eo => ?_
  rw [le_same] at eo
  obtain ⟨ws, q1, q2⟩ := each_back eo
  obtain ⟨ep, he'⟩ := PyProof.Rows.sortedAll_at s.heap its (List.toArray out)
  have hlen : ws.length ≤ sizeLine := by
    rw [q1.length, ho, ← e1.length, ← rv.length]; exact hz
  exact ⟨.ref _, upd H (s.heap.objs.size + 1) (.lst ws), I.laid (t' := s.toks) (fun _ _ => PyProof.Rows.sortedAll_old) (Nat.le_succ _) ⟨hlen, out, ep, q1, he'⟩, rfl, q _ F _ (.own sf hn) hn ⟨sub_free sf hn, .inl ⟨ws, _, upd_same, q2, rfl⟩⟩⟩, fun _ _ _ => sortL_no⟩
end
end Vs
end
section
set_option Elab.async false
set_option linter.all false
set_option maxRecDepth 100000
set_option maxHeartbeats 1000000
/-! Vs9: sets of ints as parts of expressions; repr; dicts. -/
namespace Vs
open Enc (toD)
open PySem PySem.Spec PyProof.Rows L2
/-! ### sets of ints -/
def PostU (K : PySem.W.Frag) (w : World) (W : WX) (F H : Hp) (m : Res (List Int)) (Q : VK) : Prop := match m with
  | .ok xs => ∀ a F' H' c, Grow F H F' H' → F' a = none → H a = none → H' a = some (SetO w a (fun j => decide (j ∈ xs)) c) → Q (.ref a) H'
  | .exc c i => ∀ dx F' H' σ', Grow F H F' H' → XdAt H' dx i → H dx = none → W (cv K c) (some dx) σ' H'
  | .stuck => False
def rdU (K : PySem.W.Frag) (w : World) (n : Nat) (W : WX) (ρ : Rs) (m : Res (List Int)) : TE := fun σ H Q => ∃ F0 H0 F, Rho K n F0 H0 F H σ ρ ∧ PostU K w W F H m Q
/-- e gives a set of these ints -/
abbrev XU (X : Cx) (W : WX) (ρ : Rs) (e : Expr) (m : Res (List Int)) : Prop := PE X e (rdU X.K X.w X.N.length W ρ m)
theorem ints_at {K : PySem.W.Frag} {F H : Hp} {v : V} {xs : List Int} (s : Sub F H) (r : RpH K F H v (toD xs)) : ∃ a, v = .ref a ∧ H a = some (.lst (xs.map V.int)) := by
  obtain ⟨a, vs, e, h1, h2⟩ := r.lst_of s
  rw [ints_of h2] at h1
  exact ⟨a, e, h1⟩
theorem rp_ints {K : PySem.W.Frag} {F : Hp} : ∀ xs : List Int, RpAll K F (xs.map V.int) (xs.map toD)
  | [] => .nil
  | x :: xs => .cons (.int x) (rp_ints xs)
def rSetI (K : PySem.W.Frag) (w : World) : List V → Hp → VK → Prop := fun vs H Q => ∃ (a : Addr) (ns : List Int), vs = [.ref a] ∧ SqL K H a (ns.map V.int) ∧ ns.length + 1 < scanBound ∧ ∀ p c, H p = none → Q (.ref p) (upd H p (SetO w p (fun j => decide (j ∈ ns)) c))
section
variable {X : Cx} {W : WX} {ρ : Rs} {pos : Pos} {α β γ δ S τ Ω : Type} [Enc α] [Enc β] [Enc γ] [Enc δ]
theorem cr_setI (hc : X.calm = true) : CallR X (.type "set") (rSetI X.K X.w) := by
  intro pins s σ H vs us Q I r h
  obtain ⟨a, ns, rfl, hs, hb, q⟩ := h
  obtain ⟨its, rv, hl, hz⟩ := I.list hs
  rw [Vals.ref1 r]
  refine set_of_ints ns (I.ok.hd hc) hl.isList (by simpa using rv.ints) hb fun h' tk c R _ hk => ?_
  exact ⟨.ref _, upd H s.heap.objs.size (SetO X.w s.heap.objs.size (fun j => decide (j ∈ ns)) c), I.laid (t' := tk) hk (Nat.le_refl _) (setO_new R), rfl, q _ _ (I.hok.fresh (Nat.le_refl _))⟩
def rSortN (w : World) : List V → Hp → VK → Prop := fun vs H Q => ∃ (a : Addr) (S : Int → Bool) (n : Nat), vs = [V.ref a] ∧ H a = some (SetO w a S n) ∧
  ∀ (ns : List Int) (p : Addr), ns.Pairwise (· ≤ ·) → ns.Nodup → (∀ k : Int, k ∈ ns ↔ S k = true) → H p = none → Q (.ref p) (upd H p (.lst (ns.map V.int)))
theorem cr_sortN (hc : X.calm = true) (hu : X.A.units + 64 < cLine) : CallR X (.builtin "sorted") (rSortN X.w) := by
  intro pins s σ H vs us Q I r h
  obtain ⟨a, S, n, rfl, ha, q⟩ := h
  have R := setO_get I ha
  have hnb : n < scanBound := by
    obtain ⟨_, es, _, _, _, _, _, _, _, _, h1, _, h2, _⟩ := R
    omega
  rw [Vals.ref1 r]
  refine sorted_ints R (I.ok.hd hc) (by omega) fun s' p out c ns k g o hp hg hi hs nd hm hl => ?_
  have hlen : (ns.map V.int).length ≤ sizeLine := by
    rw [List.length_map, hl, sizeLine_eq]
    unfold scanBound at hnb
    omega
  have J : Inv X pins σ (upd H p (.lst (ns.map V.int))) { s with heap := s'.heap, gens := s'.gens, drawn := s'.drawn, toks := s'.toks } :=
    I.call (ch := []) (Un.laid k hp (I.hok.fresh hp)) (I.hok.laid k hp ⟨hlen, out.toList, c, vals_of_ints hi, hg⟩) (by rw [g]; exact I.bare) (fun _ z => nomatch z)
  have e : s' = { s with heap := s'.heap, gens := s'.gens, drawn := s'.drawn, toks := s'.toks } := by
    cases s'; cases s; cases o; rfl
  rw [e]
  exact ⟨.ref p, _, J, rfl, q ns p hs nd hm (I.hok.fresh hp)⟩
/-- a sorted list without repeats is told by its members -/
theorem sorted_same {xs ys : List Int} (h1 : xs.Pairwise (· ≤ ·)) (n1 : xs.Nodup) (h2 : ys.Pairwise (· ≤ ·)) (n2 : ys.Nodup) (h : ∀ k, k ∈ xs ↔ k ∈ ys) : xs = ys :=
  List.Perm.eq_of_pairwise (le := fun a b => a ≤ b) (fun a b _ _ h1 h2 => Int.le_antisymm h1 h2) h1 h2 ((List.perm_ext_iff_of_nodup n1 n2).mpr h)
theorem sortP_int (xs : List Int) : sortP xs = xs.mergeSort := by
  unfold sortP
  congr 1
  funext a b
  show (!decide (b < a)) = decide (a ≤ b)
  by_cases h : b < a
  · rw [decide_eq_true h, decide_eq_false (Int.not_le.mpr h)]; rfl
  · rw [decide_eq_false h, decide_eq_true (Int.not_lt.mp h)]; rfl
theorem sortP_int_le (xs : List Int) : (sortP xs).Pairwise (· ≤ ·) := by
  rw [sortP_int]
  exact List.pairwise_mergeSort (fun a b c h1 h2 => by simp only [decide_eq_true_eq] at *; omega) (fun a b => by simp only [Bool.or_eq_true, decide_eq_true_eq]; omega) xs |>.imp of_decide_eq_true
theorem sortP_perm [Ord1 α] (xs : List α) : (sortP xs).Perm xs := List.mergeSort_perm _ _
theorem sortS_mem {xs : List Int} {k : Int} : k ∈ sortS xs ↔ k ∈ xs := (sortP_perm _).mem_iff.trans mem_dedup
theorem sortS_nodup (xs : List Int) : (sortS xs).Nodup := (sortP_perm _).nodup_iff.mpr (nodup_dedup xs)
theorem sortS_le (xs : List Int) : (sortS xs).Pairwise (· ≤ ·) := sortP_int_le _
theorem XU.set {e : Expr} {p : Pos} {m : Res (List Int)} (hc : X.calm = true) (hm : X.mg "set" = none) (he : XW X W ρ e m) (hg : Gl X "set" := by rfl)
    (hs : starEach [e] X.env = [(false, eval e X.env)] := by rfl) : XU X W ρ (.Call (.Name "set" p) [e] [] pos) (do
    let xs ← m
    setI xs) := by
  refine PE.imp (pe_callTy (cr_setI hc) hg hm PyProof.Rows.boot_set (XA.one he hs) (by decide) (by decide) hs rfl) fun σ H Q ⟨F0, H0, F, R, p⟩ => ?_
  refine ⟨F0, H0, F, R, ?_⟩
  cases m with
  | exc c i => exact p
  | stuck => exact p
  | ok xs =>
    intro v F1 H1 g r
    have p1 : PostU X.K X.w W F H (setI xs) Q := p
    unfold setI at p1
    split at p1
    · obtain ⟨a, e, h1⟩ := ints_at g.fh r
      refine ⟨a, xs, by rw [e], .inl (.inl h1), by unfold scanBound; omega, fun q c nq => p1 q F1 _ c (g.trans (.own g.fh nq)) (sub_free g.fh nq) (sub_free g.h nq) upd_same⟩
    · exact p1.elim
/-- sorted(set) -/
theorem XF.sortedU {e : Expr} {p : Pos} {m : Res (List Int)} (hc : X.calm = true) (hu : X.A.units + 64 < cLine) (hm : X.mg "sorted" = none) (he : XU X W ρ e m) (hg : Gl X "sorted" := by rfl)
    (hs : starEach [e] X.env = [(false, eval e X.env)] := by rfl) : XF X W ρ (.Call (.Name "sorted" p) [e] [] pos) (do
    let xs ← m
    Res.ok (sortS xs)) := by
  refine PE.imp (pe_callB (cr_sortN hc hu) hg hm (by rfl) (PA.imp (pa_cons he pa_nil hs) fun σ H Q (h : rdU X.K X.w X.N.length W ρ m σ H fun v H1 => Q [v] H1) => h) (by decide) (by decide) hs rfl) fun σ H Q ⟨F0, H0, F, R, p⟩ => ?_
  refine ⟨F0, H0, F, R, ?_⟩
  cases m with
  | exc c i => exact p
  | stuck => exact p
  | ok xs =>
    intro a F1 H1 c g fa na ha
    refine ⟨a, _, c, rfl, ha, fun ns q h1 h2 h3 nq => ?_⟩
    have e1 : ns = sortS xs := sorted_same h1 h2 (sortS_le xs) (sortS_nodup xs) fun k => by rw [h3, sortS_mem]; simp
    have p1 : ∀ a F' H', Grow F H F' H' → H a = none → Cell X.K F' H' a (toD (sortS xs)) → Q (.ref a) H' := p
    refine p1 q F1 _ (g.trans (.own g.fh nq)) (sub_free g.h nq) ⟨sub_free g.fh nq, .inl ⟨_, _, upd_same, ?_, rfl⟩⟩
    rw [e1]
    exact rp_ints (sortS xs)
theorem mem_same {xs ys : List Int} (n1 : xs.Nodup) (n2 : ys.Nodup) (h : ∀ k, k ∈ xs ↔ k ∈ ys) : xs.length = ys.length := ((List.perm_ext_iff_of_nodup n1 n2).mpr h).length_eq
theorem cr_lenN : CallR X (.builtin "len") (fun vs H Q => ∃ (a : Addr) (xs : List Int) (n : Nat), vs = [V.ref a] ∧ H a = some (SetO X.w a (fun j => decide (j ∈ xs)) n) ∧ Q (.int (dedup xs).length) H) := by
  intro pins s σ H vs us Q I r h
  obtain ⟨a, xs, n, rfl, ha, q⟩ := h
  obtain ⟨o, es, ep, t, ho, hex, hd, g, nd, hm, hb, hf, hn, _⟩ := setO_get I ha
  rw [Vals.ref1 r]
  have e : es.size = (dedup xs).length := by
    have q := mem_same nd (nodup_dedup xs) fun k => by rw [← hm k, mem_dedup]; simp
    simpa using q
  refine call_len_set ho hex hd hf (by unfold scanBound at hb; omega) ⟨.int (es.size : Nat), H, I.tok _, ⟨s.toks + 1, rfl⟩, ?_⟩
  rw [e]; exact q
/-- len(set) -/
theorem XV.lenU {e : Expr} {p : Pos} {m : Res (List Int)} (hm : X.mg "len" = none) (he : XU X W ρ e m) (hg : Gl X "len" := by rfl)
    (hs : starEach [e] X.env = [(false, eval e X.env)] := by rfl) : XV X W ρ (.Call (.Name "len" p) [e] [] pos) (do
    let xs ← m
    Res.ok ((dedup xs).length : Int)) := by
  refine PE.imp (pe_callB cr_lenN hg hm (by rfl) (PA.imp (pa_cons he pa_nil hs) fun σ H Q (h : rdU X.K X.w X.N.length W ρ m σ H fun v H1 => Q [v] H1) => h) (by decide) (by decide) hs rfl) fun σ H Q ⟨F0, H0, F, R, p⟩ => ?_
  refine ⟨F0, H0, F, R, ?_⟩
  cases m with
  | exc c i => exact p
  | stuck => exact p
  | ok xs =>
    intro a F1 H1 c g fa na ha
    exact ⟨a, xs, c, rfl, ha, p _ F1 H1 g (.int _)⟩

/-! ### repr -/
def reprR (x : α) : Res RTx := if (toD x).showable = true ∧ (toD x).shown.length ≤ lim then .ok ⟨(toD x).shown⟩ else .stuck
theorem reprR_ok {x : α} {y : RTx} (h : reprR x = .ok y) : (toD x).showable = true ∧ (toD x).shown.length ≤ lim ∧ y = ⟨(toD x).shown⟩ := by
  unfold reprR at h
  split at h
  · rename_i q; cases h; exact ⟨q.1, q.2, rfl⟩
  · cases h
theorem reprR_no {x : α} {c : Str} {i : Int} : reprR x ≠ .exc c i := by unfold reprR; split <;> intro h <;> cases h
theorem b_repr {k : Nat} [DecidableEq α] [PyEq α] (gr : GRoom k X.A) (hd : PyEq.dp α ≤ 60 := by decide) : C1 X (.builtin "repr") (reprR : α → Res RTx) := ⟨fun pins s σ H xs us Q I rs q => by
  obtain ⟨F, x, z, v, sf, e, r, ez, q⟩ := q
  obtain ⟨h1, h2, rfl⟩ := reprR_ok ez
  subst e
  obtain ⟨u, rfl, ru⟩ := vals1 rs
  have lay := PyEq.lay x
  obtain ⟨as, rd⟩ := Dp.reads I _ _ _ (r.dp sf lay) ru
  have hz : (toD x).shown.length ≤ sizeLine := by rw [← lim_line]; exact h2
  have q' : ∀ (t : Tok) (h' : Heap) (tk : Nat), (∀ b o, s.heap.get? b = some o → h'.get? b = some o) → EP X pins σ Q (.str (toD x).shown t) { s with heap := h', toks := tk } := fun t h' tk hk =>
    ⟨.str (toD x).shown, H, I.kept hk, ⟨t, rfl⟩, q _ F H (.refl sf) (.str _)⟩
  generalize ed : toD x = d at h1 h2 hz q' rd lay
  cases rd with
  | none => simp only [PyData.shown] at q'; exact PySem.P.repr_of_none (q' _ _ _ fun _ _ e => e)
  | bool b => simp only [PyData.shown] at q'; exact PySem.P.repr_of_bool (q' _ _ _ fun _ _ e => e)
  | int i t => simp only [PyData.shown] at q'; exact PySem.P.repr_of_int (by simpa [PyData.showable] using h1) (q' _ _ _ fun _ _ e => e)
  | str y t => simp only [PyData.shown] at q' hz; exact PySem.P.repr_of_str (q' _ _ _ fun _ _ e => e) hz
  | list a1 a2 a3 a4 =>
    have hu := gr.r.units
    have dp := PyEq.dep x
    rw [ed] at dp
    exact repr_of_reads' (.list a1 a2 a3 a4) h1 (PyData.noDict_hsm (PyData.hasDict_of_canLay _ lay)) gr.g (by omega) (fun _ _ e => e) (fun h' u tk hk => q' u h' tk hk) hz
  | tuple a1 a2 a3 a4 =>
    have hu := gr.r.units
    have dp := PyEq.dep x
    rw [ed] at dp
    exact repr_of_reads' (.tuple a1 a2 a3 a4) h1 (PyData.noDict_hsm (PyData.hasDict_of_canLay _ lay)) gr.g (by omega) (fun _ _ e => e) (fun h' u tk hk => q' u h' tk hk) hz
  | dict a1 a2 a3 a4 a5 => simp [PyData.canLay0] at lay, fun _ _ _ => reprR_no⟩
theorem c_eqR : CmpOk X .Eq (fun a b : RTx => decide (a = b)) :=
  OpR.imp op_eq fun vx vy H Q ⟨F, x, y, s, r1, r2, q⟩ => by
    have e1 := RpH.str_of r1
    have e2 := RpH.str_of r2
    subst e1 e2
    refine ⟨rfl, ?_⟩
    rw [show decide (V.str x.s = V.str y.s) = decide (x = y) by
      congr 1
      exact propext ⟨fun h => by cases x; cases y; cases h; rfl, fun h => by rw [h]⟩]
    exact q
theorem c_neR : CmpOk X .NotEq (fun a b : RTx => !decide (a = b)) :=
  OpR.imp op_ne fun vx vy H Q ⟨F, x, y, s, r1, r2, q⟩ => by
    have e1 := RpH.str_of r1
    have e2 := RpH.str_of r2
    subst e1 e2
    refine ⟨rfl, ?_⟩
    rw [show decide (V.str x.s = V.str y.s) = decide (x = y) by
      congr 1
      exact propext ⟨fun h => by cases x; cases y; cases h; rfl, fun h => by rw [h]⟩]
    exact q
/-- a written text beside one that repr gave -/
theorem XV.rtx {x : Str} {j : Nat} : XV X W ρ (.Constant (.str x) j pos) (.ok (⟨x⟩ : RTx)) := PE.imp pe_str fun σ H Q ⟨F0, H0, F, R, p⟩ => p _ F H (.refl R.fh) (.str x)
end
end Vs
end
section
set_option Elab.async false
set_option linter.all false
set_option maxRecDepth 100000
set_option maxHeartbeats 1000000
/-! Vs10: dicts with ints or texts as keys. -/
namespace Vs
open Enc (toD)
open PySem PySem.Spec PyProof.Rows L2
class KeyK (κ : Type) [Enc κ] [DecidableEq κ] [DKey κ] where
  key : κ → Key
  enc : ∀ k : κ, toD k = keyD (key k)
  inj : ∀ a b : κ, key a = key b → a = b
  nt : DKey.tk κ = false
instance : KeyK Int := ⟨.inl, fun _ => rfl, fun a b h => by cases h; rfl, rfl⟩
instance : KeyK PStr := ⟨fun x => .inr x.1, fun _ => rfl, fun a b h => Subtype.ext (by cases a; cases b; cases h; rfl), rfl⟩
section
variable {κ α : Type} [Enc κ] [DecidableEq κ] [DKey κ] [Enc α] [KeyK κ] {K : PySem.W.Frag} {F H : Hp}
abbrev encP (l : List (κ × α)) : List (PyData × PyData) := l.map fun p => (toD p.1, toD p.2)
theorem dict_enc (d : Dict κ α) : toD d = .dict ((.bool false, .none) :: encP d.l) := by
  show PyData.dict ((.bool (DKey.tk κ), .none) :: _) = _
  rw [KeyK.nt]
theorem keyD_inj : ∀ {a b : Key}, keyD a = keyD b → a = b
  | .inl _, .inl _, h => by cases h; rfl
  | .inr _, .inr _, h => by cases h; rfl
  | .inl _, .inr _, h => nomatch h
  | .inr _, .inl _, h => nomatch h
theorem key_v {v : V} {k : κ} (r : Rp K F v (toD k)) : v = kV (KeyK.key k) := by
  rw [KeyK.enc] at r
  cases e : KeyK.key k with
  | inl i => rw [e] at r; exact Rp.int_of r
  | inr x => rw [e] at r; exact Rp.str_of r
theorem rpk_cons {kvs : List (Key × V)} {p : κ × α} {l : List (κ × α)} (r : RpK K F kvs (encP (p :: l))) : ∃ v rest, kvs = (KeyK.key p.1, v) :: rest ∧ Rp K F v (toD p.2) ∧ RpK K F rest (encP l) := by
  have r' : RpK K F kvs ((toD p.1, toD p.2) :: encP l) := r
  rw [KeyK.enc] at r'
  generalize ek : keyD (KeyK.key p.1) = kd at r'
  cases r' with
  | @cons k v rest d ds h1 h2 => exact ⟨v, rest, by rw [keyD_inj ek], h1, h2⟩
theorem rpk_mk {v : V} {rest : List (Key × V)} {p : κ × α} {l : List (κ × α)} (h1 : Rp K F v (toD p.2)) (h2 : RpK K F rest (encP l)) : RpK K F ((KeyK.key p.1, v) :: rest) (encP (p :: l)) := by
  show RpK K F _ ((toD p.1, toD p.2) :: encP l)
  rw [KeyK.enc]
  exact .cons h1 h2
theorem rpk_nil {kvs : List (Key × V)} (r : RpK K F kvs (encP ([] : List (κ × α)))) : kvs = [] := by cases r; rfl
theorem rpk_keys : ∀ {kvs : List (Key × V)} {l : List (κ × α)}, RpK K F kvs (encP l) → kvs.map (·.1) = l.map fun p => KeyK.key p.1
  | _, [], r => by rw [rpk_nil r]; rfl
  | _, p :: l, r => by
    obtain ⟨v, rest, rfl, _, h2⟩ := rpk_cons r
    rw [List.map_cons, List.map_cons, rpk_keys h2]
theorem rpk_len {kvs : List (Key × V)} {l : List (κ × α)} (r : RpK K F kvs (encP l)) : kvs.length = l.length := by
  have := congrArg List.length (rpk_keys r)
  simpa using this
theorem key_dec (a b : κ) : decide (KeyK.key a = KeyK.key b) = decide (a = b) := by
  by_cases h : a = b
  · subst h; simp
  · rw [decide_eq_false h, decide_eq_false fun e => h (KeyK.inj a b e)]
theorem rpk_val (k : κ) : ∀ {kvs : List (Key × V)} {l : List (κ × α)}, RpK K F kvs (encP l) → match valP l k with
    | some x => ∃ v, valV kvs (KeyK.key k) = some v ∧ Rp K F v (toD x)
    | none => valV kvs (KeyK.key k) = none
  | _, [], r => by rw [rpk_nil r]; rfl
  | _, p :: l, r => by
    obtain ⟨v, rest, rfl, h1, h2⟩ := rpk_cons r
    have ih := rpk_val k h2
    unfold valP at ih ⊢
    rw [List.find?_cons]
    by_cases h : p.1 = k
    · subst h
      simp only [decide_true, Option.map_some]
      exact ⟨v, valV_pos rfl, h1⟩
    · rw [decide_eq_false h, valV_neg fun e => h (KeyK.inj _ _ e)]
      exact ih
theorem rpk_any (k : κ) {kvs : List (Key × V)} {l : List (κ × α)} (r : RpK K F kvs (encP l)) : (kvs.any fun kv => decide (kv.1 = KeyK.key k)) = l.any fun p => decide (p.1 = k) := by
  have e := rpk_keys r
  have h1 : (kvs.any fun kv => decide (kv.1 = KeyK.key k)) = (kvs.map (·.1)).any fun z => decide (z = KeyK.key k) := by rw [List.any_map]; rfl
  have h2 : (l.any fun p => decide (p.1 = k)) = (l.map fun p => KeyK.key p.1).any fun z => decide (z = KeyK.key k) := by
    rw [List.any_map]
    congr 1
    funext p
    exact (key_dec p.1 k).symm
  rw [h1, h2, e]
theorem rpk_repl (k : κ) (x : α) {v : V} (rv : Rp K F v (toD x)) : ∀ {kvs : List (Key × V)} {l : List (κ × α)}, RpK K F kvs (encP l) → RpK K F (kvs.map fun kv => if kv.1 = KeyK.key k then (kv.1, v) else kv) (encP (l.map fun p => if p.1 = k then (p.1, x) else p))
  | _, [], r => by rw [rpk_nil r]; exact .nil
  | _, p :: l, r => by
    obtain ⟨u, rest, rfl, h1, h2⟩ := rpk_cons r
    have ih := rpk_repl k x rv h2
    rw [List.map_cons, List.map_cons]
    by_cases h : p.1 = k
    · subst h
      rw [if_pos rfl, if_pos rfl]
      exact rpk_mk (p := (p.1, x)) rv ih
    · rw [if_neg h, if_neg fun e => h (KeyK.inj _ _ e)]
      exact rpk_mk h1 ih
theorem rpk_snoc (k : κ) (x : α) {v : V} (rv : Rp K F v (toD x)) : ∀ {kvs : List (Key × V)} {l : List (κ × α)}, RpK K F kvs (encP l) → RpK K F (kvs ++ [(KeyK.key k, v)]) (encP (l ++ [(k, x)]))
  | _, [], r => by rw [rpk_nil r]; exact rpk_mk (p := (k, x)) rv (show RpK K F [] (encP []) from .nil)
  | _, p :: l, r => by
    obtain ⟨u, rest, rfl, h1, h2⟩ := rpk_cons r
    rw [List.cons_append, List.cons_append]
    exact rpk_mk h1 (rpk_snoc k x rv h2)
theorem rpk_put (k : κ) (x : α) {v : V} {kvs : List (Key × V)} {l : List (κ × α)} (rv : Rp K F v (toD x)) (r : RpK K F kvs (encP l)) : RpK K F (putK kvs (KeyK.key k) v) (encP (putP l k x)) := by
  unfold putK putP
  rw [rpk_any k r]
  by_cases h : (l.any fun p => decide (p.1 = k)) = true
  · rw [if_pos h, if_pos h]; exact rpk_repl k x rv r
  · rw [if_neg h, if_neg h]; exact rpk_snoc k x rv r
/-- a dict that may be read -/
theorem RpH.dk_of {v : V} {d : Dict κ α} (s : Sub F H) (r : RpH K F H v (toD d)) : ∃ a kvs, v = .ref a ∧ Rd H a (.dK kvs) ∧ RpK K F kvs (encP d.l) := by
  rw [dict_enc] at r
  rcases r with r | ⟨a, e, c⟩
  · cases r with
    | @dk a o kvs ds h1 h2 => exact ⟨a, kvs, rfl, .inr ⟨o, s _ _ h1⟩, h2⟩
  · obtain ⟨_, ⟨_, _, _, _, q⟩ | ⟨kvs, ds, h1, h2, q⟩ | ⟨_, _, _, _, q⟩⟩ := c <;> cases q
    exact ⟨a, kvs, e, .inl h1, h2⟩
theorem Rp.dk_of {v : V} {d : Dict κ α} (r : Rp K F v (toD d)) : ∃ a o kvs, v = .ref a ∧ F a = some (.frz o (.dK kvs)) ∧ RpK K F kvs (encP d.l) := by
  rw [dict_enc] at r
  cases r with
  | @dk a o kvs ds h1 h2 => exact ⟨a, o, kvs, rfl, h1, h2⟩
end
section
variable {X : Cx} {W : WX} {ρ : Rs} {pos : Pos} {κ α β γ δ S τ Ω : Type} [Enc κ] [DecidableEq κ] [DKey κ] [KeyK κ] [Enc α] [Enc β] [Enc γ] [Enc δ]
theorem getR_no {d : Dict κ α} {k : κ} {c : Str} {i : Int} : d.getR k ≠ .exc c i := by unfold Dict.getR; split <;> intro h <;> cases h
/-- d[k] -/
theorem XV.dget {o i : Expr} {mo : Res (Dict κ α)} {mk : Res κ} (hu : X.A.units + 64 < cLine) (ho : XW X W ρ o mo) (hi : XV X W ρ i mk) (hs : NoSl i := by intro _ _; rfl) : XV X W ρ (.Subscript o i pos) (do
    let d ← mo
    let k ← mk
    d.getR k) := by
  refine PE.imp (pe_dget (by omega) ho hi hs) fun σ H Q ⟨F0, H0, F, R, p⟩ => ⟨F0, H0, F, R, ?_⟩
  cases mo with
  | exc c i => exact p
  | stuck => exact p
  | ok d =>
    intro v F1 H1 g1 r1
    refine ⟨F0, H0, F1, R.grow g1, ?_⟩
    have p1 := PostV.grow g1 p
    cases mk with
    | exc c i => exact p1
    | stuck => exact p1
    | ok k =>
      intro u F2 H2 g2 r2
      have p2 : PostV X.K W F2 H2 ((d.getR k).map toD) Q := PostV.grow g2 p1
      obtain ⟨a, kvs, rfl, h1, h2⟩ := (r1.grow g2).dk_of g2.fh
      obtain rfl := key_v r2
      have q := rpk_val k h2
      unfold Dict.getR at p2
      cases e : valP d.l k with
      | none => rw [e] at p2; exact p2.elim
      | some x =>
        rw [e] at p2 q
        obtain ⟨w, e1, e2⟩ := q
        exact ⟨a, w, rfl, .inl ⟨kvs, _, h1, rfl, e1.symm⟩, p2 w F2 H2 (.refl g2.fh) e2⟩
/-- k in d -/
theorem c_inD (hu : X.A.units + 64 < cLine) : CmpOk X .In (fun (k : κ) (d : Dict κ α) => d.has k) := fun pins s σ H vx vy u1 u2 Q I r1 r2 ⟨F, k, d, sf, q1, q2, q⟩ => by
  obtain ⟨a, kvs, rfl, h1, h2⟩ := q2.dk_of sf
  obtain rfl : vx = kV (KeyK.key k) := by
    rcases q1 with q1 | ⟨b, e, c⟩
    · exact key_v q1
    · rw [KeyK.enc] at c
      obtain ⟨_, ⟨_, _, _, _, z⟩ | ⟨_, _, _, _, z⟩ | ⟨_, _, _, _, z⟩⟩ := c <;> cases e2 : KeyK.key k <;> rw [e2] at z <;> cases z
  obtain rfl : u2 = Value.ref a := r2
  have hq := rpk_val k h2
  refine d_in (o := valV kvs (KeyK.key k)) (by omega) I (.inl ⟨kvs, _, h1, rfl, rfl⟩) r1 fun s' I' => ⟨.bl _, H, I', rfl, ?_⟩
  have e : (valV kvs (KeyK.key k)).isSome = d.has k := by
    unfold Dict.has
    cases e : valP d.l k with
    | none => rw [e] at hq; rw [hq]; rfl
    | some x => rw [e] at hq; obtain ⟨w, e1, _⟩ := hq; rw [e1]; rfl
  rw [e]; exact q
theorem c_notinD (hu : X.A.units + 64 < cLine) : CmpOk X .NotIn (fun (k : κ) (d : Dict κ α) => !d.has k) := fun pins s σ H vx vy u1 u2 Q I r1 r2 ⟨F, k, d, sf, q1, q2, q⟩ => by
  obtain ⟨a, kvs, rfl, h1, h2⟩ := q2.dk_of sf
  obtain rfl : vx = kV (KeyK.key k) := by
    rcases q1 with q1 | ⟨b, e, c⟩
    · exact key_v q1
    · rw [KeyK.enc] at c
      obtain ⟨_, ⟨_, _, _, _, z⟩ | ⟨_, _, _, _, z⟩ | ⟨_, _, _, _, z⟩⟩ := c <;> cases e2 : KeyK.key k <;> rw [e2] at z <;> cases z
  obtain rfl : u2 = Value.ref a := r2
  have hq := rpk_val k h2
  refine d_notIn (o := valV kvs (KeyK.key k)) (by omega) I (.inl ⟨kvs, _, h1, rfl, rfl⟩) r1 fun s' I' => ⟨.bl _, H, I', rfl, ?_⟩
  have e : (valV kvs (KeyK.key k)).isSome = d.has k := by
    unfold Dict.has
    cases e : valP d.l k with
    | none => rw [e] at hq; rw [hq]; rfl
    | some x => rw [e] at hq; obtain ⟨w, e1, _⟩ := hq; rw [e1]; rfl
  rw [e]; exact q
/-- {} -/
theorem XF.dnil : XF X W ρ (.Dict [] [] pos) (.ok (⟨[]⟩ : Dict κ α)) := PE.imp pe_dnewK fun σ H Q ⟨F0, H0, F, R, p⟩ q nq =>
  p q F _ (.own R.fh nq) nq ⟨sub_free R.fh nq, .inr (.inl ⟨[], _, upd_same, .nil, dict_enc _⟩)⟩
/-- {k: v} -/
theorem XF.disp1 {k v : Expr} {mk : Res κ} {mv : Res α} (hk : XV X W ρ k mk) (hv : XV X W ρ v mv) : XF X W ρ (.Dict [some k] [v] pos) (do
    let a ← mk
    let b ← mv
    Res.ok (⟨[(a, b)]⟩ : Dict κ α)) := by
  refine PE.imp (pe_disp (pps_cons hk hv pps_nil) rfl rfl (by simp) (by simp)) fun σ H Q ⟨F0, H0, F, R, p⟩ q nq => ?_
  have g0 : Grow F H F (upd H q (.dK [])) := .own R.fh nq
  refine ⟨F0, H0, F, R.grow g0, ?_⟩
  cases mk with
  | exc c i => exact excG g0 p
  | stuck => exact p
  | ok a =>
    intro x F1 H1 g1 r1
    refine ⟨F0, H0, F1, (R.grow g0).grow g1, ?_⟩
    cases mv with
    | exc c i => exact excG (g0.trans g1) p
    | stuck => exact p
    | ok b =>
      intro y F2 H2 g2 r2
      have g := g1.trans g2
      have hq : H2 q = some (.dK []) := g.h _ _ upd_same
      have fq : F2 q = none := by rw [g.fn q (by rw [upd_same]; exact .dK)]; exact sub_free R.fh nq
      obtain rfl := key_v r1
      refine ⟨hq, [(KeyK.key a, y)], rfl, by simp, ?_⟩
      have g3 : Grow F H F2 (upd H2 q (.dK (mergeK [] [(KeyK.key a, y)]))) := ⟨fun b o e => g.f b o e, fun b o e => by rw [upd_ne (ne_of_none e nq)]; exact g.h b o (by rw [upd_ne (ne_of_none e nq)]; exact e),
        fun b o e => by rw [upd_ne (ne_of_none e fq)]; exact g.fh b o e, fun b hb => by
          refine g.fn b ?_
          by_cases h : b = q
          · subst h; rw [upd_same]; exact .dK
          · rw [upd_ne h]; exact hb⟩
      refine p q F2 _ g3 nq ⟨fq, .inr (.inl ⟨_, _, upd_same, ?_, dict_enc _⟩)⟩
      have e : mergeK [] [(KeyK.key a, y)] = [(KeyK.key a, y)] := by simp [mergeK, putK]
      rw [e]
      exact rpk_mk (p := (a, b)) r2 (show RpK X.K F2 [] (encP []) from .nil)
/-- dict(d) -/
theorem b_dict : C1F X (.type "dict") (fun d : Dict κ α => Res.ok d) := ⟨CallR.imp call_dictD fun vs H Q ⟨F, x, z, v, s, e, r, ez, q⟩ => by
  cases ez
  obtain ⟨a, kvs, rfl, h1, h2⟩ := r.dk_of s
  exact ⟨a, kvs, e, h1, fun l nl => q l F _ (.own s nl) nl ⟨sub_free s nl, .inr (.inl ⟨_, _, upd_same, h2, dict_enc _⟩)⟩⟩, fun _ _ _ e => by cases e⟩
theorem rpk_kall {K : PySem.W.Frag} {F : Hp} : ∀ {kvs : List (Key × V)} {l : List (κ × α)}, RpK K F kvs (encP l) → RpAll K F (kvs.map fun kv => kV kv.1) ((l.map (·.1)).map toD)
  | _, [], r => by rw [rpk_nil r]; exact .nil
  | _, p :: l, r => by
    obtain ⟨v, rest, rfl, _, h2⟩ := rpk_cons r
    refine .cons ?_ (rpk_kall h2)
    rw [KeyK.enc]
    cases KeyK.key p.1 with
    | inl i => exact .int i
    | inr x => exact .str x
/-- list(d) -/
theorem b_listD (hc : X.calm = true) : C1F X (.type "list") (fun d : Dict κ α => Res.ok d.keys) := ⟨CallR.imp (call_listD hc) fun vs H Q ⟨F, x, z, v, s, e, r, ez, q⟩ => by
  cases ez
  obtain ⟨a, kvs, rfl, h1, h2⟩ := r.dk_of s
  exact ⟨a, kvs, e, h1, fun l nl => q l F _ (.own s nl) nl ⟨sub_free s nl, .inl ⟨_, _, upd_same, rpk_kall h2, rfl⟩⟩⟩, fun _ _ _ e => by cases e⟩
theorem putR_no {d : Dict κ α} {k : κ} {x : α} {c : Str} {i : Int} : d.putR k x ≠ .exc c i := by unfold Dict.putR; split <;> intro h <;> cases h
/-- d[k] = v, d this name's own -/
theorem XB.dput (k i : Nat) (ks : List Nat) {nm : Str} {e ix : Expr} {p1 p2 : Pos} {d : Dict κ α} {rest : List Stmt} {me : Res α} {mk : Res κ} {mr : Dict κ α → Res τ} {fin : τ → Fi} (ρ' : Dict κ α → Rs) (hu : X.A.units + 64 < cLine) (hk : ρ[k]? = some (i, SV.ow (toD d))) (he : XV X W ρ e me) (hi : XV X W ρ ix mk)
    (hr : ∀ ys, XB X W (ρ' ys) rest (mr ys) fin) (hρ : ∀ ys, ρ' ys = (i, SV.ow (toD ys)) :: keepAt ρ ks := by intro _; rfl) (ho : okK ρ [i] ks = true := by rfl) (hN : X.N[i]? = some nm := by rfl) (hv : Vis X.env.scope nm := by first | exact Or.inl rfl | exact Or.inr (Or.inl rfl) | exact Or.inr (Or.inr rfl))
    (hd : (nm == ("__debug__" : Str)) = false := by decide) (hcd : (nm == ("__classdict__" : Str)) = false := by decide) (hs : swapsWith e (some (.Subscript (.Name nm p1) ix p2)) pos.line X.env = pure false := by rfl) :
    XB X W ρ (.Assign [.Subscript (.Name nm p1) ix p2] e pos :: rest) (do
    let x ← me
    let k ← mk
    let ys ← d.putR k x
    mr ys) fin := by
  refine PSs.imp (pss_cons (ps_dput (by omega) (pe_var hN hv hd hcd) hi he hs) (PSs.ex hr)) fun D σ H ⟨F0, H0, F, R, p⟩ => ⟨F0, H0, F, R, ?_⟩
  have q := PostS.bind R p
  cases me with
  | exc c i => exact q
  | stuck => exact q
  | ok x =>
    intro v F1 H1 g1 r1
    have R1 := R.grow g1
    have p1 : PostS X.K X.N.length W F0 H0 F1 (mk >>= fun k => d.putR k x >>= mr) fin D := PostS.sub g1.f p
    have hm := List.mem_of_getElem? hk
    obtain ⟨a, ea, c, z⟩ := R1.ow i _ hm
    refine ⟨.ref a, ea, F0, H0, F1, R1, ?_⟩
    have q1 := PostS.bind R1 p1
    cases mk with
    | exc c i => exact q1
    | stuck => exact q1
    | ok kk =>
      intro y F2 H2 g2 r2
      have R2 := R1.grow g2
      have p2 := PostS.sub g2.f p1
      have c2 := c.grow g2
      rw [dict_enc] at c2
      obtain ⟨fa, ⟨_, _, _, _, w⟩ | ⟨kvs, ds, h1, h2, w⟩ | ⟨_, _, _, _, w⟩⟩ := id c2 <;> cases w
      obtain rfl := key_v r2
      have p3 : PostS X.K X.N.length W F0 H0 F2 (d.putR kk x >>= mr) fin D := p2
      cases ep : d.putR kk x with
      | exc c i => exact absurd ep putR_no
      | stuck => rw [ep] at p3; exact p3.elim
      | ok ys =>
        rw [ep] at p3
        unfold Dict.putR at ep
        split at ep
        · rename_i hl
          cases ep
          have hlen : kvs.length < sizeLine := by rw [rpk_len h2, ← lim_line]; exact hl
          refine ⟨a, upd H2 a (.dK (putK kvs (KeyK.key kk) v)), rfl, .k h1 hlen, ⟨putP d.l kk x⟩, F0, H0, F2, ?_, p3⟩
          exact R2.mut hm ea ⟨fa, .inr (.inl ⟨_, _, upd_same, rpk_put kk x (r1.sub g2.f) h2, dict_enc _⟩)⟩ (by rw [hρ]; exact put_w ho)
        · cases ep
/-- for k in d -/
theorem it_keys {K : PySem.W.Frag} {F : Hp} {a : Addr} {o : Obj} {kvs : List (Key × V)} {l : List (κ × α)} (e : F a = some (.frz o (.dK kvs))) (r : RpK K F kvs (encP l)) : ItOk K (Itk a o kvs) F ((l.map (·.1)).map toD) := by
  have hl : kvs.length = l.length := rpk_len r
  have ra := rpk_kall r
  refine ⟨fun i F1 H1 s1 s2 hi => ?_, fun i F1 H1 d x H2 s1 s2 hd hy => ?_, fun i F1 H1 s1 s2 hi => ?_⟩
  · exact ⟨s2 _ _ (s1 _ _ e), by simpa [hl] using hi⟩
  · obtain ⟨rfl, k, v, hk, rfl⟩ := hy
    refine ⟨F1, .refl s2, ?_⟩
    obtain ⟨v', h1, h2⟩ := ra.get hd
    rw [List.getElem?_map, hk] at h1
    cases h1
    exact h2.sub s1
  · exact ⟨s2 _ _ (s1 _ _ e), by simpa [hl] using hi⟩
theorem XI.keys {tg e : Expr} {m : Res (Dict κ α)} (he : XV X W ρ e m) : XI X W ρ tg e (do
    let d ← m
    Res.ok d.keys) := by
  refine ⟨fun pins s σ H R I ⟨F0, H0, F, Rh, p⟩ => ?_⟩
  cases m with
  | exc c i => exact (pi_keys (tg := tg) he).run pins s σ H R I ⟨F0, H0, F, Rh, p⟩
  | stuck => exact p.elim
  | ok d =>
    refine (pi_keys (tg := tg) (td := fun σ H Q => rdV X.K X.N.length W ρ (.ok (toD d)) σ H fun v H1 => (∀ a o kvs, H1 a = some (.frz o (.dK kvs)) → kvs.length ≤ sizeLine) → Q v H1) ?_).run pins s σ H R I ⟨F0, H0, F, Rh, fun v F1 H1 g r hz => ?_⟩
    · exact ⟨fun pins s σ H Q I q => thn (he.run pins s σ H _ I q) fun u s1 ⟨v, H1, I1, r, q1⟩ => ⟨v, H1, I1, r, q1 fun a o kvs e => by
        obtain ⟨hs, hgd, hx, es, ep, vs, hdt, hsz, kv, hm⟩ := I1.frzK e
        exact (dk_rd I1.hok (.inr ⟨o, e⟩)).1⟩⟩
    · obtain ⟨a, o, kvs, rfl, h1, h2⟩ := r.dk_of
      refine ⟨a, o, rfl, .inl ⟨kvs, g.fh _ _ h1, p _ F1 H1 g (it_keys h1 h2) ?_⟩⟩
      have := hz a o kvs (g.fh _ _ h1)
      rw [List.length_map]
      unfold Dict.keys
      rw [List.length_map, ← rpk_len h2]
      exact this
end
end Vs
end
section
set_option Elab.async false
set_option linter.all false
set_option maxRecDepth 100000
set_option maxHeartbeats 1000000
/-! Vs11: defs of one to eight parameters, their calls; casts; the script. -/
namespace Vs
open Enc (toD)
open PySem PySem.Spec PyProof.Rows L2
section
variable {X : Cx} {W : WX} {ρ : Rs} {pos : Pos} {α β γ S τ Ω : Type} [Enc α] [Enc β] [Enc γ]
/-- a call whose arguments are told by one thing -/
theorem XV.callI {ι : Type} {fa : Addr} {fd : FuncData} {ps : List Str} {k : Nat} {x : Str} {p : Pos} {e : Expr} {es : List Expr} {args : ι → List PyData} {f : ι → Res β} {mm : Res ι} (G : FnV X.prog X.w X.K X.mg X.base k fa fd ps (fun ds r => ∃ i, ds = args i ∧ r = (f i).map toD))
    (hr : GRoom k X.A) (tk : Takes X W) (hm : X.mg x = some (.ref fa)) (hk : PySem.W.keepIn X.K (.ref fa) = true) (hb : Binds X.K fd ps []) (ha : XA X W ρ (e :: es) (mm.map args)) (hg : Gl X x := by rfl)
    (hdb : (x == ("__debug__" : Str)) = false := by decide) (he : starEach (e :: es) X.env = (false, eval e X.env) :: starEach es X.env := by rfl) (hpl : (backTo pos (starEach es X.env)).any (·.1) = false := by rfl) :
    XV X W ρ (.Call (.Name x p) (e :: es) [] pos) (mm >>= f) := by
  refine PE.imp (pe_callG (E := fun c d H => ∀ σ, W c d σ H) G hr hg hm hk hb (passes_call tk fun c d σ H h => h σ) ha hdb he hpl) fun σ H Q ⟨F0, H0, F, Rh, p⟩ => ⟨F0, H0, F, Rh, ?_⟩
  cases mm with
  | exc c i => exact p
  | stuck => exact p
  | ok i =>
    intro vs F1 H1 g1 r1
    have p1 : PostV X.K W F1 H1 ((f i).map toD) Q := PostV.grow g1 p
    refine ⟨F1, args i, (f i).map toD, ⟨i, rfl, rfl⟩, g1.fh, r1, ?_⟩
    cases er : (f i).map toD with
    | ok d => rw [er] at p1; exact p1
    | exc c i => rw [er] at p1; exact fun dx F' H' σ' g x n σ => p1 dx F' H' σ g x n
    | stuck => rw [er] at p1; exact p1
/-- the promise of a call -/
structure FnC (K : PySem.W.Frag) (mg : Str → Option Value) (x : Str) (fa : Addr) (fd : FuncData) (ps : List Str) : Prop where
  mg : mg x = some (.ref fa)
  kp : PySem.W.keepIn K (.ref fa) = true
  bn : Binds K fd ps []
/-- a constant of the module -/
theorem XV.globI {x : Str} {i : Int} (hm : ∃ t, X.mg x = some (.int i t)) (hg : Gl X x := by rfl) (hd : (x == ("__debug__" : Str)) = false := by decide) : XV X W ρ (.Name x pos) (.ok i) := by
  obtain ⟨t, hm⟩ := hm
  exact XV.glob (v := .int i) hg hm ⟨t, rfl⟩ (fun F => .int i) hd
/-- the end of a block -/
theorem XB.nilT {fin : τ → Fi} {t : τ} {ρ' : Rs} (ht : fin t = .nx ρ') (w : ∀ p ∈ ρ', p ∈ ρ) : XB X W ρ [] (.ok t) fin :=
  PSs.imp pss_nil fun D σ H ⟨F0, H0, F, R, p⟩ => by
    have p' : (match fin t with
      | .nx ρ' => ∀ σ' F' H', Rho X.K X.N.length F0 H0 F' H' σ' ρ' → Sub F F' → D.nx σ' H'
      | .rt d => ∀ v F' H', Grow F0 H0 F' H' → Rp X.K F' v d → D.rt v H'
      | .bk ρ' => ∀ σ' F' H', Rho X.K X.N.length F0 H0 F' H' σ' ρ' → Sub F F' → D.bk σ' H') := p
    rw [ht] at p'
    exact p' σ F H (R.weak w) fun _ _ e => e
/-- casts: a kind of two, told -/
theorem XV.inlC {e : Expr} {m : Res α} (h : XV X W ρ e m) : XV X W ρ e (do
    let x ← m
    Res.ok (Sum.inl x : α ⊕ β)) := PE.imp h fun σ H Q ⟨F0, H0, F, R, p⟩ => ⟨F0, H0, F, R, by cases m <;> exact p⟩
theorem XV.inrC {e : Expr} {m : Res β} (h : XV X W ρ e m) : XV X W ρ e (do
    let x ← m
    Res.ok (Sum.inr x : α ⊕ β)) := PE.imp h fun σ H Q ⟨F0, H0, F, R, p⟩ => ⟨F0, H0, F, R, by cases m <;> exact p⟩
def asL : α ⊕ β → Res α
  | .inl a => .ok a
  | .inr _ => .stuck
def asR : α ⊕ β → Res β
  | .inl _ => .stuck
  | .inr b => .ok b
def unO : Option α → Res α
  | some a => .ok a
  | none => .stuck
theorem XV.asL {e : Expr} {m : Res (α ⊕ β)} (h : XV X W ρ e m) : XV X W ρ e (do
    let x ← m
    asL x) := PE.imp h fun σ H Q ⟨F0, H0, F, R, p⟩ => ⟨F0, H0, F, R, by
  cases m with
  | exc c i => exact p
  | stuck => exact p
  | ok x => cases x with
    | inl a => exact p
    | inr b => exact False.elim p⟩
theorem XV.asR {e : Expr} {m : Res (α ⊕ β)} (h : XV X W ρ e m) : XV X W ρ e (do
    let x ← m
    asR x) := PE.imp h fun σ H Q ⟨F0, H0, F, R, p⟩ => ⟨F0, H0, F, R, by
  cases m with
  | exc c i => exact p
  | stuck => exact p
  | ok x => cases x with
    | inl a => exact False.elim p
    | inr b => exact p⟩
theorem XV.unO {e : Expr} {m : Res (Option α)} (h : XV X W ρ e m) : XV X W ρ e (do
    let x ← m
    unO x) := PE.imp h fun σ H Q ⟨F0, H0, F, R, p⟩ => ⟨F0, H0, F, R, by
  cases m with
  | exc c i => exact p
  | stuck => exact p
  | ok x => cases x with
    | none => exact False.elim p
    | some a => exact p⟩
/-! ### the script -/
theorem RpH.scr_of {K : PySem.W.Frag} {F H : Hp} {v : V} {x : Scr} (s : Sub F H) (r : RpH K F H v (toD x)) : ∃ a, v = .ref a ∧ SqL K H a (x.l.map V.int) := by
  rcases r with r | ⟨a, e, c⟩
  · have r' : Rp K F v (.dict [(.none, .list (x.l.map toD))]) := r
    cases r' with
    | scr h1 h2 =>
      rw [ints_of h2] at h1
      exact ⟨_, rfl, sub_seqL s h1⟩
  · have c' : Cell K F H a (.dict [(.none, .list (x.l.map toD))]) := c
    obtain ⟨_, ⟨_, _, _, _, q⟩ | ⟨_, _, _, _, q⟩ | ⟨_, _, _, _, q⟩⟩ := c' <;> cases q
theorem b_lenScr : C1 X (.builtin "len") (fun x : Scr => Res.ok (lenL x.l)) := ⟨CallR.imp call_len_seq fun vs H Q ⟨F, x, z, v, s, e, r, ez, q⟩ => by
  cases ez
  obtain ⟨a, rfl, h1⟩ := r.scr_of s
  refine ⟨a, _, e, .inl h1, ?_⟩
  rw [List.length_map]
  exact q _ F H (.refl s) (.int _), fun _ _ _ e => by cases e⟩
theorem getL_noS {xs : List Int} {k : Int} {c : Str} {i : Int} : getL xs k ≠ .exc c i := getL_no
/-- script[i] -/
theorem XV.idxScr {o i : Expr} {mo : Res Scr} {mi : Res Int} (ho : XW X W ρ o mo) (hi : XV X W ρ i mi) (hs : PlainIx i := by exact fun _ _ => rfl) : XV X W ρ (.Subscript o i pos) (do
    let xs ← mo
    let k ← mi
    getL xs.l k) := by
  refine PE.imp (pe_ix ix_list ho hi hs) fun σ H Q ⟨F0, H0, F, R, p⟩ => ⟨F0, H0, F, R, ?_⟩
  cases mo with
  | exc c i => exact p
  | stuck => exact p
  | ok xs =>
    intro v F1 H1 g1 r1
    refine ⟨F0, H0, F1, R.grow g1, ?_⟩
    have p1 := PostV.grow g1 p
    cases mi with
    | exc c i => exact p1
    | stuck => exact p1
    | ok k =>
      intro u F2 H2 g2 r2
      have p2 : PostV X.K W F2 H2 ((getL xs.l k).map toD) Q := PostV.grow g2 p1
      obtain ⟨a, rfl, h1⟩ := (r1.grow g2).scr_of g2.fh
      cases e : getL xs.l k with
      | exc c i => exact absurd e getL_noS
      | stuck => rw [e] at p2; exact p2.elim
      | ok x =>
        rw [e] at p2
        obtain ⟨w, h3, h4⟩ := at_of (K := X.K) (F := F2) (rp_ints xs.l) e
        exact ⟨a, _, k, w, rfl, r2.int_of, h1, h3, p2 w F2 H2 (.refl g2.fh) h4⟩
end

section
variable {α1 : Type} [Enc α1] {β : Type} [Enc β]
abbrev Rn1 (f : α1 → Res β) : List PyData → Res PyData → Prop := fun ds r => ∃ x1, ds = [toD x1] ∧ r = (f x1).map toD
theorem fn1 {P : Program} {w : World} {K : PySem.W.Frag} {mg : Str → Option Value} {base : Heap} {x qual : Str} {params : Arguments} {body : List Stmt} {scope : Scope} {fa : Addr} {fd : FuncData} {N ps : List Str} {k : Nat} {f : α1 → Res β}
    (F : FunD K x qual params body scope [] [] fa fd) (S : FnScope N ps scope) (hps : ps.length = 1 := by rfl) (hl : ps.length ≤ N.length := by decide)
    (hbody : ∀ (cdv : Value) (A : Around) (outer : List Env) (s : Shared) (H : Hp) (E : XK), GRoom k (A.deeper (envOfC qual scope s.heap.objs.size fa cdv)) → ∀ x1,
      XB (defX P w K mg base N qual scope fa cdv A outer s H E) (defW E) [(0, SV.sh (toD x1))] body (f x1) (fun b => .rt (toD b))) : FnV P w K mg base (k + 1) fa fd ps (Rn1 f) := by
  refine fn_def (τ := fun _ _ => Unit) F S (fun ds r ⟨x1, e, _⟩ => by rw [e, hps]; rfl) hl fun cdv A outer s H E hr ds r ⟨x1, e1, e2⟩ => ?_
  subst e1 e2
  exact ⟨β, f x1, _, hbody cdv A outer s H E hr x1, fun c j e => by rw [e]; rfl, fun e => by rw [e]; rfl, fun t e => .inl ⟨toD t, rfl, by rw [e]; rfl⟩⟩
theorem fn1p {P : Program} {w : World} {K : PySem.W.Frag} {mg : Str → Option Value} {base : Heap} {x qual : Str} {params : Arguments} {body : List Stmt} {scope : Scope} {fa : Addr} {fd : FuncData} {N ps : List Str} {k : Nat} {f : α1 → Res Unit}
    (F : FunD K x qual params body scope [] [] fa fd) (S : FnScope N ps scope) (hps : ps.length = 1 := by rfl) (hl : ps.length ≤ N.length := by decide)
    (hbody : ∀ (cdv : Value) (A : Around) (outer : List Env) (s : Shared) (H : Hp) (E : XK), GRoom k (A.deeper (envOfC qual scope s.heap.objs.size fa cdv)) → ∀ x1,
      XB (defX P w K mg base N qual scope fa cdv A outer s H E) (defW E) [(0, SV.sh (toD x1))] body (f x1) (fun _ => .nx [])) : FnV P w K mg base (k + 1) fa fd ps (Rn1 f) := by
  refine fn_def (τ := fun _ _ => Unit) F S (fun ds r ⟨x1, e, _⟩ => by rw [e, hps]; rfl) hl fun cdv A outer s H E hr ds r ⟨x1, e1, e2⟩ => ?_
  subst e1 e2
  exact ⟨Unit, f x1, _, hbody cdv A outer s H E hr x1, fun c j e => by rw [e]; rfl, fun e => by rw [e]; rfl, fun t e => .inr ⟨[], rfl, by rw [e]; rfl⟩⟩
theorem XV.fn1 {X : Cx} {W : WX} {ρ : Rs} {pos : Pos} {k : Nat} {x : Str} {fa : Addr} {fd : FuncData} {ps : List Str} {p : Pos} {e1 : Expr} {f : α1 → Res β} {m1 : Res α1} (G : FnV X.prog X.w X.K X.mg X.base k fa fd ps (Rn1 f)) (C : FnC X.K X.mg x fa fd ps) (hr : GRoom k X.A) (tk : Takes X W)
    (h1 : XV X W ρ e1 m1) (hg : Gl X x := by rfl) (hdb : (x == ("__debug__" : Str)) = false := by decide)
    (s1 : starEach [e1] X.env = (false, eval e1 X.env) :: starEach [] X.env := by rfl) (hpl : (backTo pos (starEach [] X.env)).any (·.1) = false := by rfl) :
    XV X W ρ (.Call (.Name x p) [e1] [] pos) (do
    let x1 ← m1
    f x1) := by
  have G2 : FnV X.prog X.w X.K X.mg X.base k fa fd ps (fun ds r => ∃ i : α1, ds = [toD i] ∧ r = (f i).map toD) := ⟨fun vs H Q E ⟨F, ds, r, ⟨i, e1, e2⟩, q⟩ => G.len vs H Q E ⟨F, ds, r, ⟨i, e1, e2⟩, q⟩, fun A outer s H args us vs Q E hr e0 hb rv ⟨F, ds, r, ⟨i, e1, e2⟩, q⟩ => G.run A outer s H args us vs Q E hr e0 hb rv ⟨F, ds, r, ⟨i, e1, e2⟩, q⟩⟩
  refine (XV.callI (f := fun i => f i) (mm := (do
    let x1 ← m1
    Res.ok x1)) G2 hr tk C.mg C.kp C.bn (XA.eq (XA.cons h1 XA.nil s1) ?_) hg hdb s1 hpl).eq ?_
  · cases m1 with
    | exc c i => rfl
    | stuck => rfl
    | ok y1 =>
      rfl
  · cases m1 with
    | exc c i => rfl
    | stuck => rfl
    | ok y1 =>
      rfl
end
section
variable {α1 : Type} [Enc α1] {α2 : Type} [Enc α2] {β : Type} [Enc β]
abbrev Rn2 (f : α1 → α2 → Res β) : List PyData → Res PyData → Prop := fun ds r => ∃ x1 x2, ds = [toD x1, toD x2] ∧ r = (f x1 x2).map toD
theorem fn2 {P : Program} {w : World} {K : PySem.W.Frag} {mg : Str → Option Value} {base : Heap} {x qual : Str} {params : Arguments} {body : List Stmt} {scope : Scope} {fa : Addr} {fd : FuncData} {N ps : List Str} {k : Nat} {f : α1 → α2 → Res β}
    (F : FunD K x qual params body scope [] [] fa fd) (S : FnScope N ps scope) (hps : ps.length = 2 := by rfl) (hl : ps.length ≤ N.length := by decide)
    (hbody : ∀ (cdv : Value) (A : Around) (outer : List Env) (s : Shared) (H : Hp) (E : XK), GRoom k (A.deeper (envOfC qual scope s.heap.objs.size fa cdv)) → ∀ x1 x2,
      XB (defX P w K mg base N qual scope fa cdv A outer s H E) (defW E) [(0, SV.sh (toD x1)), (1, SV.sh (toD x2))] body (f x1 x2) (fun b => .rt (toD b))) : FnV P w K mg base (k + 1) fa fd ps (Rn2 f) := by
  refine fn_def (τ := fun _ _ => Unit) F S (fun ds r ⟨x1, x2, e, _⟩ => by rw [e, hps]; rfl) hl fun cdv A outer s H E hr ds r ⟨x1, x2, e1, e2⟩ => ?_
  subst e1 e2
  exact ⟨β, f x1 x2, _, hbody cdv A outer s H E hr x1 x2, fun c j e => by rw [e]; rfl, fun e => by rw [e]; rfl, fun t e => .inl ⟨toD t, rfl, by rw [e]; rfl⟩⟩
theorem fn2p {P : Program} {w : World} {K : PySem.W.Frag} {mg : Str → Option Value} {base : Heap} {x qual : Str} {params : Arguments} {body : List Stmt} {scope : Scope} {fa : Addr} {fd : FuncData} {N ps : List Str} {k : Nat} {f : α1 → α2 → Res Unit}
    (F : FunD K x qual params body scope [] [] fa fd) (S : FnScope N ps scope) (hps : ps.length = 2 := by rfl) (hl : ps.length ≤ N.length := by decide)
    (hbody : ∀ (cdv : Value) (A : Around) (outer : List Env) (s : Shared) (H : Hp) (E : XK), GRoom k (A.deeper (envOfC qual scope s.heap.objs.size fa cdv)) → ∀ x1 x2,
      XB (defX P w K mg base N qual scope fa cdv A outer s H E) (defW E) [(0, SV.sh (toD x1)), (1, SV.sh (toD x2))] body (f x1 x2) (fun _ => .nx [])) : FnV P w K mg base (k + 1) fa fd ps (Rn2 f) := by
  refine fn_def (τ := fun _ _ => Unit) F S (fun ds r ⟨x1, x2, e, _⟩ => by rw [e, hps]; rfl) hl fun cdv A outer s H E hr ds r ⟨x1, x2, e1, e2⟩ => ?_
  subst e1 e2
  exact ⟨Unit, f x1 x2, _, hbody cdv A outer s H E hr x1 x2, fun c j e => by rw [e]; rfl, fun e => by rw [e]; rfl, fun t e => .inr ⟨[], rfl, by rw [e]; rfl⟩⟩
theorem XV.fn2 {X : Cx} {W : WX} {ρ : Rs} {pos : Pos} {k : Nat} {x : Str} {fa : Addr} {fd : FuncData} {ps : List Str} {p : Pos} {e1 e2 : Expr} {f : α1 → α2 → Res β} {m1 : Res α1} {m2 : Res α2} (G : FnV X.prog X.w X.K X.mg X.base k fa fd ps (Rn2 f)) (C : FnC X.K X.mg x fa fd ps) (hr : GRoom k X.A) (tk : Takes X W)
    (h1 : XV X W ρ e1 m1) (h2 : XV X W ρ e2 m2) (hg : Gl X x := by rfl) (hdb : (x == ("__debug__" : Str)) = false := by decide)
    (s1 : starEach [e1, e2] X.env = (false, eval e1 X.env) :: starEach [e2] X.env := by rfl) (s2 : starEach [e2] X.env = (false, eval e2 X.env) :: starEach [] X.env := by rfl) (hpl : (backTo pos (starEach [e2] X.env)).any (·.1) = false := by rfl) :
    XV X W ρ (.Call (.Name x p) [e1, e2] [] pos) (do
    let x1 ← m1
    let x2 ← m2
    f x1 x2) := by
  have G2 : FnV X.prog X.w X.K X.mg X.base k fa fd ps (fun ds r => ∃ i : α1 × α2, ds = [toD (i.1), toD (i.2)] ∧ r = (f (i.1) (i.2)).map toD) := ⟨fun vs H Q E ⟨F, ds, r, ⟨i, e1, e2⟩, q⟩ => G.len vs H Q E ⟨F, ds, r, ⟨i.1, i.2, e1, e2⟩, q⟩, fun A outer s H args us vs Q E hr e0 hb rv ⟨F, ds, r, ⟨i, e1, e2⟩, q⟩ => G.run A outer s H args us vs Q E hr e0 hb rv ⟨F, ds, r, ⟨i.1, i.2, e1, e2⟩, q⟩⟩
  refine (XV.callI (f := fun i => f (i.1) (i.2)) (mm := (do
    let x1 ← m1
    let x2 ← m2
    Res.ok (x1, x2))) G2 hr tk C.mg C.kp C.bn (XA.eq (XA.cons h1 (XA.cons h2 XA.nil s2) s1) ?_) hg hdb s1 hpl).eq ?_
  · cases m1 with
    | exc c i => rfl
    | stuck => rfl
    | ok y1 =>
      cases m2 with
      | exc c i => rfl
      | stuck => rfl
      | ok y2 =>
        rfl
  · cases m1 with
    | exc c i => rfl
    | stuck => rfl
    | ok y1 =>
      cases m2 with
      | exc c i => rfl
      | stuck => rfl
      | ok y2 =>
        rfl
end
section
variable {α1 : Type} [Enc α1] {α2 : Type} [Enc α2] {α3 : Type} [Enc α3] {β : Type} [Enc β]
abbrev Rn3 (f : α1 → α2 → α3 → Res β) : List PyData → Res PyData → Prop := fun ds r => ∃ x1 x2 x3, ds = [toD x1, toD x2, toD x3] ∧ r = (f x1 x2 x3).map toD
theorem fn3 {P : Program} {w : World} {K : PySem.W.Frag} {mg : Str → Option Value} {base : Heap} {x qual : Str} {params : Arguments} {body : List Stmt} {scope : Scope} {fa : Addr} {fd : FuncData} {N ps : List Str} {k : Nat} {f : α1 → α2 → α3 → Res β}
    (F : FunD K x qual params body scope [] [] fa fd) (S : FnScope N ps scope) (hps : ps.length = 3 := by rfl) (hl : ps.length ≤ N.length := by decide)
    (hbody : ∀ (cdv : Value) (A : Around) (outer : List Env) (s : Shared) (H : Hp) (E : XK), GRoom k (A.deeper (envOfC qual scope s.heap.objs.size fa cdv)) → ∀ x1 x2 x3,
      XB (defX P w K mg base N qual scope fa cdv A outer s H E) (defW E) [(0, SV.sh (toD x1)), (1, SV.sh (toD x2)), (2, SV.sh (toD x3))] body (f x1 x2 x3) (fun b => .rt (toD b))) : FnV P w K mg base (k + 1) fa fd ps (Rn3 f) := by
  refine fn_def (τ := fun _ _ => Unit) F S (fun ds r ⟨x1, x2, x3, e, _⟩ => by rw [e, hps]; rfl) hl fun cdv A outer s H E hr ds r ⟨x1, x2, x3, e1, e2⟩ => ?_
  subst e1 e2
  exact ⟨β, f x1 x2 x3, _, hbody cdv A outer s H E hr x1 x2 x3, fun c j e => by rw [e]; rfl, fun e => by rw [e]; rfl, fun t e => .inl ⟨toD t, rfl, by rw [e]; rfl⟩⟩
theorem fn3p {P : Program} {w : World} {K : PySem.W.Frag} {mg : Str → Option Value} {base : Heap} {x qual : Str} {params : Arguments} {body : List Stmt} {scope : Scope} {fa : Addr} {fd : FuncData} {N ps : List Str} {k : Nat} {f : α1 → α2 → α3 → Res Unit}
    (F : FunD K x qual params body scope [] [] fa fd) (S : FnScope N ps scope) (hps : ps.length = 3 := by rfl) (hl : ps.length ≤ N.length := by decide)
    (hbody : ∀ (cdv : Value) (A : Around) (outer : List Env) (s : Shared) (H : Hp) (E : XK), GRoom k (A.deeper (envOfC qual scope s.heap.objs.size fa cdv)) → ∀ x1 x2 x3,
      XB (defX P w K mg base N qual scope fa cdv A outer s H E) (defW E) [(0, SV.sh (toD x1)), (1, SV.sh (toD x2)), (2, SV.sh (toD x3))] body (f x1 x2 x3) (fun _ => .nx [])) : FnV P w K mg base (k + 1) fa fd ps (Rn3 f) := by
  refine fn_def (τ := fun _ _ => Unit) F S (fun ds r ⟨x1, x2, x3, e, _⟩ => by rw [e, hps]; rfl) hl fun cdv A outer s H E hr ds r ⟨x1, x2, x3, e1, e2⟩ => ?_
  subst e1 e2
  exact ⟨Unit, f x1 x2 x3, _, hbody cdv A outer s H E hr x1 x2 x3, fun c j e => by rw [e]; rfl, fun e => by rw [e]; rfl, fun t e => .inr ⟨[], rfl, by rw [e]; rfl⟩⟩
theorem XV.fn3 {X : Cx} {W : WX} {ρ : Rs} {pos : Pos} {k : Nat} {x : Str} {fa : Addr} {fd : FuncData} {ps : List Str} {p : Pos} {e1 e2 e3 : Expr} {f : α1 → α2 → α3 → Res β} {m1 : Res α1} {m2 : Res α2} {m3 : Res α3} (G : FnV X.prog X.w X.K X.mg X.base k fa fd ps (Rn3 f)) (C : FnC X.K X.mg x fa fd ps) (hr : GRoom k X.A) (tk : Takes X W)
    (h1 : XV X W ρ e1 m1) (h2 : XV X W ρ e2 m2) (h3 : XV X W ρ e3 m3) (hg : Gl X x := by rfl) (hdb : (x == ("__debug__" : Str)) = false := by decide)
    (s1 : starEach [e1, e2, e3] X.env = (false, eval e1 X.env) :: starEach [e2, e3] X.env := by rfl) (s2 : starEach [e2, e3] X.env = (false, eval e2 X.env) :: starEach [e3] X.env := by rfl) (s3 : starEach [e3] X.env = (false, eval e3 X.env) :: starEach [] X.env := by rfl) (hpl : (backTo pos (starEach [e2, e3] X.env)).any (·.1) = false := by rfl) :
    XV X W ρ (.Call (.Name x p) [e1, e2, e3] [] pos) (do
    let x1 ← m1
    let x2 ← m2
    let x3 ← m3
    f x1 x2 x3) := by
  have G2 : FnV X.prog X.w X.K X.mg X.base k fa fd ps (fun ds r => ∃ i : α1 × α2 × α3, ds = [toD (i.1), toD (i.2.1), toD (i.2.2)] ∧ r = (f (i.1) (i.2.1) (i.2.2)).map toD) := ⟨fun vs H Q E ⟨F, ds, r, ⟨i, e1, e2⟩, q⟩ => G.len vs H Q E ⟨F, ds, r, ⟨i.1, i.2.1, i.2.2, e1, e2⟩, q⟩, fun A outer s H args us vs Q E hr e0 hb rv ⟨F, ds, r, ⟨i, e1, e2⟩, q⟩ => G.run A outer s H args us vs Q E hr e0 hb rv ⟨F, ds, r, ⟨i.1, i.2.1, i.2.2, e1, e2⟩, q⟩⟩
  refine (XV.callI (f := fun i => f (i.1) (i.2.1) (i.2.2)) (mm := (do
    let x1 ← m1
    let x2 ← m2
    let x3 ← m3
    Res.ok (x1, x2, x3))) G2 hr tk C.mg C.kp C.bn (XA.eq (XA.cons h1 (XA.cons h2 (XA.cons h3 XA.nil s3) s2) s1) ?_) hg hdb s1 hpl).eq ?_
  · cases m1 with
    | exc c i => rfl
    | stuck => rfl
    | ok y1 =>
      cases m2 with
      | exc c i => rfl
      | stuck => rfl
      | ok y2 =>
        cases m3 with
        | exc c i => rfl
        | stuck => rfl
        | ok y3 =>
          rfl
  · cases m1 with
    | exc c i => rfl
    | stuck => rfl
    | ok y1 =>
      cases m2 with
      | exc c i => rfl
      | stuck => rfl
      | ok y2 =>
        cases m3 with
        | exc c i => rfl
        | stuck => rfl
        | ok y3 =>
          rfl
end
section
variable {α1 : Type} [Enc α1] {α2 : Type} [Enc α2] {α3 : Type} [Enc α3] {α4 : Type} [Enc α4] {β : Type} [Enc β]
abbrev Rn4 (f : α1 → α2 → α3 → α4 → Res β) : List PyData → Res PyData → Prop := fun ds r => ∃ x1 x2 x3 x4, ds = [toD x1, toD x2, toD x3, toD x4] ∧ r = (f x1 x2 x3 x4).map toD
theorem fn4 {P : Program} {w : World} {K : PySem.W.Frag} {mg : Str → Option Value} {base : Heap} {x qual : Str} {params : Arguments} {body : List Stmt} {scope : Scope} {fa : Addr} {fd : FuncData} {N ps : List Str} {k : Nat} {f : α1 → α2 → α3 → α4 → Res β}
    (F : FunD K x qual params body scope [] [] fa fd) (S : FnScope N ps scope) (hps : ps.length = 4 := by rfl) (hl : ps.length ≤ N.length := by decide)
    (hbody : ∀ (cdv : Value) (A : Around) (outer : List Env) (s : Shared) (H : Hp) (E : XK), GRoom k (A.deeper (envOfC qual scope s.heap.objs.size fa cdv)) → ∀ x1 x2 x3 x4,
      XB (defX P w K mg base N qual scope fa cdv A outer s H E) (defW E) [(0, SV.sh (toD x1)), (1, SV.sh (toD x2)), (2, SV.sh (toD x3)), (3, SV.sh (toD x4))] body (f x1 x2 x3 x4) (fun b => .rt (toD b))) : FnV P w K mg base (k + 1) fa fd ps (Rn4 f) := by
  refine fn_def (τ := fun _ _ => Unit) F S (fun ds r ⟨x1, x2, x3, x4, e, _⟩ => by rw [e, hps]; rfl) hl fun cdv A outer s H E hr ds r ⟨x1, x2, x3, x4, e1, e2⟩ => ?_
  subst e1 e2
  exact ⟨β, f x1 x2 x3 x4, _, hbody cdv A outer s H E hr x1 x2 x3 x4, fun c j e => by rw [e]; rfl, fun e => by rw [e]; rfl, fun t e => .inl ⟨toD t, rfl, by rw [e]; rfl⟩⟩
theorem fn4p {P : Program} {w : World} {K : PySem.W.Frag} {mg : Str → Option Value} {base : Heap} {x qual : Str} {params : Arguments} {body : List Stmt} {scope : Scope} {fa : Addr} {fd : FuncData} {N ps : List Str} {k : Nat} {f : α1 → α2 → α3 → α4 → Res Unit}
    (F : FunD K x qual params body scope [] [] fa fd) (S : FnScope N ps scope) (hps : ps.length = 4 := by rfl) (hl : ps.length ≤ N.length := by decide)
    (hbody : ∀ (cdv : Value) (A : Around) (outer : List Env) (s : Shared) (H : Hp) (E : XK), GRoom k (A.deeper (envOfC qual scope s.heap.objs.size fa cdv)) → ∀ x1 x2 x3 x4,
      XB (defX P w K mg base N qual scope fa cdv A outer s H E) (defW E) [(0, SV.sh (toD x1)), (1, SV.sh (toD x2)), (2, SV.sh (toD x3)), (3, SV.sh (toD x4))] body (f x1 x2 x3 x4) (fun _ => .nx [])) : FnV P w K mg base (k + 1) fa fd ps (Rn4 f) := by
  refine fn_def (τ := fun _ _ => Unit) F S (fun ds r ⟨x1, x2, x3, x4, e, _⟩ => by rw [e, hps]; rfl) hl fun cdv A outer s H E hr ds r ⟨x1, x2, x3, x4, e1, e2⟩ => ?_
  subst e1 e2
  exact ⟨Unit, f x1 x2 x3 x4, _, hbody cdv A outer s H E hr x1 x2 x3 x4, fun c j e => by rw [e]; rfl, fun e => by rw [e]; rfl, fun t e => .inr ⟨[], rfl, by rw [e]; rfl⟩⟩
theorem XV.fn4 {X : Cx} {W : WX} {ρ : Rs} {pos : Pos} {k : Nat} {x : Str} {fa : Addr} {fd : FuncData} {ps : List Str} {p : Pos} {e1 e2 e3 e4 : Expr} {f : α1 → α2 → α3 → α4 → Res β} {m1 : Res α1} {m2 : Res α2} {m3 : Res α3} {m4 : Res α4} (G : FnV X.prog X.w X.K X.mg X.base k fa fd ps (Rn4 f)) (C : FnC X.K X.mg x fa fd ps) (hr : GRoom k X.A) (tk : Takes X W)
    (h1 : XV X W ρ e1 m1) (h2 : XV X W ρ e2 m2) (h3 : XV X W ρ e3 m3) (h4 : XV X W ρ e4 m4) (hg : Gl X x := by rfl) (hdb : (x == ("__debug__" : Str)) = false := by decide)
    (s1 : starEach [e1, e2, e3, e4] X.env = (false, eval e1 X.env) :: starEach [e2, e3, e4] X.env := by rfl) (s2 : starEach [e2, e3, e4] X.env = (false, eval e2 X.env) :: starEach [e3, e4] X.env := by rfl) (s3 : starEach [e3, e4] X.env = (false, eval e3 X.env) :: starEach [e4] X.env := by rfl) (s4 : starEach [e4] X.env = (false, eval e4 X.env) :: starEach [] X.env := by rfl) (hpl : (backTo pos (starEach [e2, e3, e4] X.env)).any (·.1) = false := by rfl) :
    XV X W ρ (.Call (.Name x p) [e1, e2, e3, e4] [] pos) (do
    let x1 ← m1
    let x2 ← m2
    let x3 ← m3
    let x4 ← m4
    f x1 x2 x3 x4) := by
  have G2 : FnV X.prog X.w X.K X.mg X.base k fa fd ps (fun ds r => ∃ i : α1 × α2 × α3 × α4, ds = [toD (i.1), toD (i.2.1), toD (i.2.2.1), toD (i.2.2.2)] ∧ r = (f (i.1) (i.2.1) (i.2.2.1) (i.2.2.2)).map toD) := ⟨fun vs H Q E ⟨F, ds, r, ⟨i, e1, e2⟩, q⟩ => G.len vs H Q E ⟨F, ds, r, ⟨i.1, i.2.1, i.2.2.1, i.2.2.2, e1, e2⟩, q⟩, fun A outer s H args us vs Q E hr e0 hb rv ⟨F, ds, r, ⟨i, e1, e2⟩, q⟩ => G.run A outer s H args us vs Q E hr e0 hb rv ⟨F, ds, r, ⟨i.1, i.2.1, i.2.2.1, i.2.2.2, e1, e2⟩, q⟩⟩
  refine (XV.callI (f := fun i => f (i.1) (i.2.1) (i.2.2.1) (i.2.2.2)) (mm := (do
    let x1 ← m1
    let x2 ← m2
    let x3 ← m3
    let x4 ← m4
    Res.ok (x1, x2, x3, x4))) G2 hr tk C.mg C.kp C.bn (XA.eq (XA.cons h1 (XA.cons h2 (XA.cons h3 (XA.cons h4 XA.nil s4) s3) s2) s1) ?_) hg hdb s1 hpl).eq ?_
  · cases m1 with
    | exc c i => rfl
    | stuck => rfl
    | ok y1 =>
      cases m2 with
      | exc c i => rfl
      | stuck => rfl
      | ok y2 =>
        cases m3 with
        | exc c i => rfl
        | stuck => rfl
        | ok y3 =>
          cases m4 with
          | exc c i => rfl
          | stuck => rfl
          | ok y4 =>
            rfl
  · cases m1 with
    | exc c i => rfl
    | stuck => rfl
    | ok y1 =>
      cases m2 with
      | exc c i => rfl
      | stuck => rfl
      | ok y2 =>
        cases m3 with
        | exc c i => rfl
        | stuck => rfl
        | ok y3 =>
          cases m4 with
          | exc c i => rfl
          | stuck => rfl
          | ok y4 =>
            rfl
end
section
variable {α1 : Type} [Enc α1] {α2 : Type} [Enc α2] {α3 : Type} [Enc α3] {α4 : Type} [Enc α4] {α5 : Type} [Enc α5] {β : Type} [Enc β]
abbrev Rn5 (f : α1 → α2 → α3 → α4 → α5 → Res β) : List PyData → Res PyData → Prop := fun ds r => ∃ x1 x2 x3 x4 x5, ds = [toD x1, toD x2, toD x3, toD x4, toD x5] ∧ r = (f x1 x2 x3 x4 x5).map toD
theorem fn5 {P : Program} {w : World} {K : PySem.W.Frag} {mg : Str → Option Value} {base : Heap} {x qual : Str} {params : Arguments} {body : List Stmt} {scope : Scope} {fa : Addr} {fd : FuncData} {N ps : List Str} {k : Nat} {f : α1 → α2 → α3 → α4 → α5 → Res β}
    (F : FunD K x qual params body scope [] [] fa fd) (S : FnScope N ps scope) (hps : ps.length = 5 := by rfl) (hl : ps.length ≤ N.length := by decide)
    (hbody : ∀ (cdv : Value) (A : Around) (outer : List Env) (s : Shared) (H : Hp) (E : XK), GRoom k (A.deeper (envOfC qual scope s.heap.objs.size fa cdv)) → ∀ x1 x2 x3 x4 x5,
      XB (defX P w K mg base N qual scope fa cdv A outer s H E) (defW E) [(0, SV.sh (toD x1)), (1, SV.sh (toD x2)), (2, SV.sh (toD x3)), (3, SV.sh (toD x4)), (4, SV.sh (toD x5))] body (f x1 x2 x3 x4 x5) (fun b => .rt (toD b))) : FnV P w K mg base (k + 1) fa fd ps (Rn5 f) := by
  refine fn_def (τ := fun _ _ => Unit) F S (fun ds r ⟨x1, x2, x3, x4, x5, e, _⟩ => by rw [e, hps]; rfl) hl fun cdv A outer s H E hr ds r ⟨x1, x2, x3, x4, x5, e1, e2⟩ => ?_
  subst e1 e2
  exact ⟨β, f x1 x2 x3 x4 x5, _, hbody cdv A outer s H E hr x1 x2 x3 x4 x5, fun c j e => by rw [e]; rfl, fun e => by rw [e]; rfl, fun t e => .inl ⟨toD t, rfl, by rw [e]; rfl⟩⟩
theorem fn5p {P : Program} {w : World} {K : PySem.W.Frag} {mg : Str → Option Value} {base : Heap} {x qual : Str} {params : Arguments} {body : List Stmt} {scope : Scope} {fa : Addr} {fd : FuncData} {N ps : List Str} {k : Nat} {f : α1 → α2 → α3 → α4 → α5 → Res Unit}
    (F : FunD K x qual params body scope [] [] fa fd) (S : FnScope N ps scope) (hps : ps.length = 5 := by rfl) (hl : ps.length ≤ N.length := by decide)
    (hbody : ∀ (cdv : Value) (A : Around) (outer : List Env) (s : Shared) (H : Hp) (E : XK), GRoom k (A.deeper (envOfC qual scope s.heap.objs.size fa cdv)) → ∀ x1 x2 x3 x4 x5,
      XB (defX P w K mg base N qual scope fa cdv A outer s H E) (defW E) [(0, SV.sh (toD x1)), (1, SV.sh (toD x2)), (2, SV.sh (toD x3)), (3, SV.sh (toD x4)), (4, SV.sh (toD x5))] body (f x1 x2 x3 x4 x5) (fun _ => .nx [])) : FnV P w K mg base (k + 1) fa fd ps (Rn5 f) := by
  refine fn_def (τ := fun _ _ => Unit) F S (fun ds r ⟨x1, x2, x3, x4, x5, e, _⟩ => by rw [e, hps]; rfl) hl fun cdv A outer s H E hr ds r ⟨x1, x2, x3, x4, x5, e1, e2⟩ => ?_
  subst e1 e2
  exact ⟨Unit, f x1 x2 x3 x4 x5, _, hbody cdv A outer s H E hr x1 x2 x3 x4 x5, fun c j e => by rw [e]; rfl, fun e => by rw [e]; rfl, fun t e => .inr ⟨[], rfl, by rw [e]; rfl⟩⟩
theorem XV.fn5 {X : Cx} {W : WX} {ρ : Rs} {pos : Pos} {k : Nat} {x : Str} {fa : Addr} {fd : FuncData} {ps : List Str} {p : Pos} {e1 e2 e3 e4 e5 : Expr} {f : α1 → α2 → α3 → α4 → α5 → Res β} {m1 : Res α1} {m2 : Res α2} {m3 : Res α3} {m4 : Res α4} {m5 : Res α5} (G : FnV X.prog X.w X.K X.mg X.base k fa fd ps (Rn5 f)) (C : FnC X.K X.mg x fa fd ps) (hr : GRoom k X.A) (tk : Takes X W)
    (h1 : XV X W ρ e1 m1) (h2 : XV X W ρ e2 m2) (h3 : XV X W ρ e3 m3) (h4 : XV X W ρ e4 m4) (h5 : XV X W ρ e5 m5) (hg : Gl X x := by rfl) (hdb : (x == ("__debug__" : Str)) = false := by decide)
    (s1 : starEach [e1, e2, e3, e4, e5] X.env = (false, eval e1 X.env) :: starEach [e2, e3, e4, e5] X.env := by rfl) (s2 : starEach [e2, e3, e4, e5] X.env = (false, eval e2 X.env) :: starEach [e3, e4, e5] X.env := by rfl) (s3 : starEach [e3, e4, e5] X.env = (false, eval e3 X.env) :: starEach [e4, e5] X.env := by rfl) (s4 : starEach [e4, e5] X.env = (false, eval e4 X.env) :: starEach [e5] X.env := by rfl) (s5 : starEach [e5] X.env = (false, eval e5 X.env) :: starEach [] X.env := by rfl) (hpl : (backTo pos (starEach [e2, e3, e4, e5] X.env)).any (·.1) = false := by rfl) :
    XV X W ρ (.Call (.Name x p) [e1, e2, e3, e4, e5] [] pos) (do
    let x1 ← m1
    let x2 ← m2
    let x3 ← m3
    let x4 ← m4
    let x5 ← m5
    f x1 x2 x3 x4 x5) := by
  have G2 : FnV X.prog X.w X.K X.mg X.base k fa fd ps (fun ds r => ∃ i : α1 × α2 × α3 × α4 × α5, ds = [toD (i.1), toD (i.2.1), toD (i.2.2.1), toD (i.2.2.2.1), toD (i.2.2.2.2)] ∧ r = (f (i.1) (i.2.1) (i.2.2.1) (i.2.2.2.1) (i.2.2.2.2)).map toD) := ⟨fun vs H Q E ⟨F, ds, r, ⟨i, e1, e2⟩, q⟩ => G.len vs H Q E ⟨F, ds, r, ⟨i.1, i.2.1, i.2.2.1, i.2.2.2.1, i.2.2.2.2, e1, e2⟩, q⟩, fun A outer s H args us vs Q E hr e0 hb rv ⟨F, ds, r, ⟨i, e1, e2⟩, q⟩ => G.run A outer s H args us vs Q E hr e0 hb rv ⟨F, ds, r, ⟨i.1, i.2.1, i.2.2.1, i.2.2.2.1, i.2.2.2.2, e1, e2⟩, q⟩⟩
  refine (XV.callI (f := fun i => f (i.1) (i.2.1) (i.2.2.1) (i.2.2.2.1) (i.2.2.2.2)) (mm := (do
    let x1 ← m1
    let x2 ← m2
    let x3 ← m3
    let x4 ← m4
    let x5 ← m5
    Res.ok (x1, x2, x3, x4, x5))) G2 hr tk C.mg C.kp C.bn (XA.eq (XA.cons h1 (XA.cons h2 (XA.cons h3 (XA.cons h4 (XA.cons h5 XA.nil s5) s4) s3) s2) s1) ?_) hg hdb s1 hpl).eq ?_
  · cases m1 with
    | exc c i => rfl
    | stuck => rfl
    | ok y1 =>
      cases m2 with
      | exc c i => rfl
      | stuck => rfl
      | ok y2 =>
        cases m3 with
        | exc c i => rfl
        | stuck => rfl
        | ok y3 =>
          cases m4 with
          | exc c i => rfl
          | stuck => rfl
          | ok y4 =>
            cases m5 with
            | exc c i => rfl
            | stuck => rfl
            | ok y5 =>
              rfl
  · cases m1 with
    | exc c i => rfl
    | stuck => rfl
    | ok y1 =>
      cases m2 with
      | exc c i => rfl
      | stuck => rfl
      | ok y2 =>
        cases m3 with
        | exc c i => rfl
        | stuck => rfl
        | ok y3 =>
          cases m4 with
          | exc c i => rfl
          | stuck => rfl
          | ok y4 =>
            cases m5 with
            | exc c i => rfl
            | stuck => rfl
            | ok y5 =>
              rfl
end
section
variable {α1 : Type} [Enc α1] {α2 : Type} [Enc α2] {α3 : Type} [Enc α3] {α4 : Type} [Enc α4] {α5 : Type} [Enc α5] {α6 : Type} [Enc α6] {β : Type} [Enc β]
abbrev Rn6 (f : α1 → α2 → α3 → α4 → α5 → α6 → Res β) : List PyData → Res PyData → Prop := fun ds r => ∃ x1 x2 x3 x4 x5 x6, ds = [toD x1, toD x2, toD x3, toD x4, toD x5, toD x6] ∧ r = (f x1 x2 x3 x4 x5 x6).map toD
theorem fn6 {P : Program} {w : World} {K : PySem.W.Frag} {mg : Str → Option Value} {base : Heap} {x qual : Str} {params : Arguments} {body : List Stmt} {scope : Scope} {fa : Addr} {fd : FuncData} {N ps : List Str} {k : Nat} {f : α1 → α2 → α3 → α4 → α5 → α6 → Res β}
    (F : FunD K x qual params body scope [] [] fa fd) (S : FnScope N ps scope) (hps : ps.length = 6 := by rfl) (hl : ps.length ≤ N.length := by decide)
    (hbody : ∀ (cdv : Value) (A : Around) (outer : List Env) (s : Shared) (H : Hp) (E : XK), GRoom k (A.deeper (envOfC qual scope s.heap.objs.size fa cdv)) → ∀ x1 x2 x3 x4 x5 x6,
      XB (defX P w K mg base N qual scope fa cdv A outer s H E) (defW E) [(0, SV.sh (toD x1)), (1, SV.sh (toD x2)), (2, SV.sh (toD x3)), (3, SV.sh (toD x4)), (4, SV.sh (toD x5)), (5, SV.sh (toD x6))] body (f x1 x2 x3 x4 x5 x6) (fun b => .rt (toD b))) : FnV P w K mg base (k + 1) fa fd ps (Rn6 f) := by
  refine fn_def (τ := fun _ _ => Unit) F S (fun ds r ⟨x1, x2, x3, x4, x5, x6, e, _⟩ => by rw [e, hps]; rfl) hl fun cdv A outer s H E hr ds r ⟨x1, x2, x3, x4, x5, x6, e1, e2⟩ => ?_
  subst e1 e2
  exact ⟨β, f x1 x2 x3 x4 x5 x6, _, hbody cdv A outer s H E hr x1 x2 x3 x4 x5 x6, fun c j e => by rw [e]; rfl, fun e => by rw [e]; rfl, fun t e => .inl ⟨toD t, rfl, by rw [e]; rfl⟩⟩
theorem fn6p {P : Program} {w : World} {K : PySem.W.Frag} {mg : Str → Option Value} {base : Heap} {x qual : Str} {params : Arguments} {body : List Stmt} {scope : Scope} {fa : Addr} {fd : FuncData} {N ps : List Str} {k : Nat} {f : α1 → α2 → α3 → α4 → α5 → α6 → Res Unit}
    (F : FunD K x qual params body scope [] [] fa fd) (S : FnScope N ps scope) (hps : ps.length = 6 := by rfl) (hl : ps.length ≤ N.length := by decide)
    (hbody : ∀ (cdv : Value) (A : Around) (outer : List Env) (s : Shared) (H : Hp) (E : XK), GRoom k (A.deeper (envOfC qual scope s.heap.objs.size fa cdv)) → ∀ x1 x2 x3 x4 x5 x6,
      XB (defX P w K mg base N qual scope fa cdv A outer s H E) (defW E) [(0, SV.sh (toD x1)), (1, SV.sh (toD x2)), (2, SV.sh (toD x3)), (3, SV.sh (toD x4)), (4, SV.sh (toD x5)), (5, SV.sh (toD x6))] body (f x1 x2 x3 x4 x5 x6) (fun _ => .nx [])) : FnV P w K mg base (k + 1) fa fd ps (Rn6 f) := by
  refine fn_def (τ := fun _ _ => Unit) F S (fun ds r ⟨x1, x2, x3, x4, x5, x6, e, _⟩ => by rw [e, hps]; rfl) hl fun cdv A outer s H E hr ds r ⟨x1, x2, x3, x4, x5, x6, e1, e2⟩ => ?_
  subst e1 e2
  exact ⟨Unit, f x1 x2 x3 x4 x5 x6, _, hbody cdv A outer s H E hr x1 x2 x3 x4 x5 x6, fun c j e => by rw [e]; rfl, fun e => by rw [e]; rfl, fun t e => .inr ⟨[], rfl, by rw [e]; rfl⟩⟩
theorem XV.fn6 {X : Cx} {W : WX} {ρ : Rs} {pos : Pos} {k : Nat} {x : Str} {fa : Addr} {fd : FuncData} {ps : List Str} {p : Pos} {e1 e2 e3 e4 e5 e6 : Expr} {f : α1 → α2 → α3 → α4 → α5 → α6 → Res β} {m1 : Res α1} {m2 : Res α2} {m3 : Res α3} {m4 : Res α4} {m5 : Res α5} {m6 : Res α6} (G : FnV X.prog X.w X.K X.mg X.base k fa fd ps (Rn6 f)) (C : FnC X.K X.mg x fa fd ps) (hr : GRoom k X.A) (tk : Takes X W)
    (h1 : XV X W ρ e1 m1) (h2 : XV X W ρ e2 m2) (h3 : XV X W ρ e3 m3) (h4 : XV X W ρ e4 m4) (h5 : XV X W ρ e5 m5) (h6 : XV X W ρ e6 m6) (hg : Gl X x := by rfl) (hdb : (x == ("__debug__" : Str)) = false := by decide)
    (s1 : starEach [e1, e2, e3, e4, e5, e6] X.env = (false, eval e1 X.env) :: starEach [e2, e3, e4, e5, e6] X.env := by rfl) (s2 : starEach [e2, e3, e4, e5, e6] X.env = (false, eval e2 X.env) :: starEach [e3, e4, e5, e6] X.env := by rfl) (s3 : starEach [e3, e4, e5, e6] X.env = (false, eval e3 X.env) :: starEach [e4, e5, e6] X.env := by rfl) (s4 : starEach [e4, e5, e6] X.env = (false, eval e4 X.env) :: starEach [e5, e6] X.env := by rfl) (s5 : starEach [e5, e6] X.env = (false, eval e5 X.env) :: starEach [e6] X.env := by rfl) (s6 : starEach [e6] X.env = (false, eval e6 X.env) :: starEach [] X.env := by rfl) (hpl : (backTo pos (starEach [e2, e3, e4, e5, e6] X.env)).any (·.1) = false := by rfl) :
    XV X W ρ (.Call (.Name x p) [e1, e2, e3, e4, e5, e6] [] pos) (do
    let x1 ← m1
    let x2 ← m2
    let x3 ← m3
    let x4 ← m4
    let x5 ← m5
    let x6 ← m6
    f x1 x2 x3 x4 x5 x6) := by
  have G2 : FnV X.prog X.w X.K X.mg X.base k fa fd ps (fun ds r => ∃ i : α1 × α2 × α3 × α4 × α5 × α6, ds = [toD (i.1), toD (i.2.1), toD (i.2.2.1), toD (i.2.2.2.1), toD (i.2.2.2.2.1), toD (i.2.2.2.2.2)] ∧ r = (f (i.1) (i.2.1) (i.2.2.1) (i.2.2.2.1) (i.2.2.2.2.1) (i.2.2.2.2.2)).map toD) := ⟨fun vs H Q E ⟨F, ds, r, ⟨i, e1, e2⟩, q⟩ => G.len vs H Q E ⟨F, ds, r, ⟨i.1, i.2.1, i.2.2.1, i.2.2.2.1, i.2.2.2.2.1, i.2.2.2.2.2, e1, e2⟩, q⟩, fun A outer s H args us vs Q E hr e0 hb rv ⟨F, ds, r, ⟨i, e1, e2⟩, q⟩ => G.run A outer s H args us vs Q E hr e0 hb rv ⟨F, ds, r, ⟨i.1, i.2.1, i.2.2.1, i.2.2.2.1, i.2.2.2.2.1, i.2.2.2.2.2, e1, e2⟩, q⟩⟩
  refine (XV.callI (f := fun i => f (i.1) (i.2.1) (i.2.2.1) (i.2.2.2.1) (i.2.2.2.2.1) (i.2.2.2.2.2)) (mm := (do
    let x1 ← m1
    let x2 ← m2
    let x3 ← m3
    let x4 ← m4
    let x5 ← m5
    let x6 ← m6
    Res.ok (x1, x2, x3, x4, x5, x6))) G2 hr tk C.mg C.kp C.bn (XA.eq (XA.cons h1 (XA.cons h2 (XA.cons h3 (XA.cons h4 (XA.cons h5 (XA.cons h6 XA.nil s6) s5) s4) s3) s2) s1) ?_) hg hdb s1 hpl).eq ?_
  · cases m1 with
    | exc c i => rfl
    | stuck => rfl
    | ok y1 =>
      cases m2 with
      | exc c i => rfl
      | stuck => rfl
      | ok y2 =>
        cases m3 with
        | exc c i => rfl
        | stuck => rfl
        | ok y3 =>
          cases m4 with
          | exc c i => rfl
          | stuck => rfl
          | ok y4 =>
            cases m5 with
            | exc c i => rfl
            | stuck => rfl
            | ok y5 =>
              cases m6 with
              | exc c i => rfl
              | stuck => rfl
              | ok y6 =>
                rfl
  · cases m1 with
    | exc c i => rfl
    | stuck => rfl
    | ok y1 =>
      cases m2 with
      | exc c i => rfl
      | stuck => rfl
      | ok y2 =>
        cases m3 with
        | exc c i => rfl
        | stuck => rfl
        | ok y3 =>
          cases m4 with
          | exc c i => rfl
          | stuck => rfl
          | ok y4 =>
            cases m5 with
            | exc c i => rfl
            | stuck => rfl
            | ok y5 =>
              cases m6 with
              | exc c i => rfl
              | stuck => rfl
              | ok y6 =>
                rfl
end
section
variable {α1 : Type} [Enc α1] {α2 : Type} [Enc α2] {α3 : Type} [Enc α3] {α4 : Type} [Enc α4] {α5 : Type} [Enc α5] {α6 : Type} [Enc α6] {α7 : Type} [Enc α7] {β : Type} [Enc β]
abbrev Rn7 (f : α1 → α2 → α3 → α4 → α5 → α6 → α7 → Res β) : List PyData → Res PyData → Prop := fun ds r => ∃ x1 x2 x3 x4 x5 x6 x7, ds = [toD x1, toD x2, toD x3, toD x4, toD x5, toD x6, toD x7] ∧ r = (f x1 x2 x3 x4 x5 x6 x7).map toD
theorem fn7 {P : Program} {w : World} {K : PySem.W.Frag} {mg : Str → Option Value} {base : Heap} {x qual : Str} {params : Arguments} {body : List Stmt} {scope : Scope} {fa : Addr} {fd : FuncData} {N ps : List Str} {k : Nat} {f : α1 → α2 → α3 → α4 → α5 → α6 → α7 → Res β}
    (F : FunD K x qual params body scope [] [] fa fd) (S : FnScope N ps scope) (hps : ps.length = 7 := by rfl) (hl : ps.length ≤ N.length := by decide)
    (hbody : ∀ (cdv : Value) (A : Around) (outer : List Env) (s : Shared) (H : Hp) (E : XK), GRoom k (A.deeper (envOfC qual scope s.heap.objs.size fa cdv)) → ∀ x1 x2 x3 x4 x5 x6 x7,
      XB (defX P w K mg base N qual scope fa cdv A outer s H E) (defW E) [(0, SV.sh (toD x1)), (1, SV.sh (toD x2)), (2, SV.sh (toD x3)), (3, SV.sh (toD x4)), (4, SV.sh (toD x5)), (5, SV.sh (toD x6)), (6, SV.sh (toD x7))] body (f x1 x2 x3 x4 x5 x6 x7) (fun b => .rt (toD b))) : FnV P w K mg base (k + 1) fa fd ps (Rn7 f) := by
  refine fn_def (τ := fun _ _ => Unit) F S (fun ds r ⟨x1, x2, x3, x4, x5, x6, x7, e, _⟩ => by rw [e, hps]; rfl) hl fun cdv A outer s H E hr ds r ⟨x1, x2, x3, x4, x5, x6, x7, e1, e2⟩ => ?_
  subst e1 e2
  exact ⟨β, f x1 x2 x3 x4 x5 x6 x7, _, hbody cdv A outer s H E hr x1 x2 x3 x4 x5 x6 x7, fun c j e => by rw [e]; rfl, fun e => by rw [e]; rfl, fun t e => .inl ⟨toD t, rfl, by rw [e]; rfl⟩⟩
theorem fn7p {P : Program} {w : World} {K : PySem.W.Frag} {mg : Str → Option Value} {base : Heap} {x qual : Str} {params : Arguments} {body : List Stmt} {scope : Scope} {fa : Addr} {fd : FuncData} {N ps : List Str} {k : Nat} {f : α1 → α2 → α3 → α4 → α5 → α6 → α7 → Res Unit}
    (F : FunD K x qual params body scope [] [] fa fd) (S : FnScope N ps scope) (hps : ps.length = 7 := by rfl) (hl : ps.length ≤ N.length := by decide)
    (hbody : ∀ (cdv : Value) (A : Around) (outer : List Env) (s : Shared) (H : Hp) (E : XK), GRoom k (A.deeper (envOfC qual scope s.heap.objs.size fa cdv)) → ∀ x1 x2 x3 x4 x5 x6 x7,
      XB (defX P w K mg base N qual scope fa cdv A outer s H E) (defW E) [(0, SV.sh (toD x1)), (1, SV.sh (toD x2)), (2, SV.sh (toD x3)), (3, SV.sh (toD x4)), (4, SV.sh (toD x5)), (5, SV.sh (toD x6)), (6, SV.sh (toD x7))] body (f x1 x2 x3 x4 x5 x6 x7) (fun _ => .nx [])) : FnV P w K mg base (k + 1) fa fd ps (Rn7 f) := by
  refine fn_def (τ := fun _ _ => Unit) F S (fun ds r ⟨x1, x2, x3, x4, x5, x6, x7, e, _⟩ => by rw [e, hps]; rfl) hl fun cdv A outer s H E hr ds r ⟨x1, x2, x3, x4, x5, x6, x7, e1, e2⟩ => ?_
  subst e1 e2
  exact ⟨Unit, f x1 x2 x3 x4 x5 x6 x7, _, hbody cdv A outer s H E hr x1 x2 x3 x4 x5 x6 x7, fun c j e => by rw [e]; rfl, fun e => by rw [e]; rfl, fun t e => .inr ⟨[], rfl, by rw [e]; rfl⟩⟩
theorem XV.fn7 {X : Cx} {W : WX} {ρ : Rs} {pos : Pos} {k : Nat} {x : Str} {fa : Addr} {fd : FuncData} {ps : List Str} {p : Pos} {e1 e2 e3 e4 e5 e6 e7 : Expr} {f : α1 → α2 → α3 → α4 → α5 → α6 → α7 → Res β} {m1 : Res α1} {m2 : Res α2} {m3 : Res α3} {m4 : Res α4} {m5 : Res α5} {m6 : Res α6} {m7 : Res α7} (G : FnV X.prog X.w X.K X.mg X.base k fa fd ps (Rn7 f)) (C : FnC X.K X.mg x fa fd ps) (hr : GRoom k X.A) (tk : Takes X W)
    (h1 : XV X W ρ e1 m1) (h2 : XV X W ρ e2 m2) (h3 : XV X W ρ e3 m3) (h4 : XV X W ρ e4 m4) (h5 : XV X W ρ e5 m5) (h6 : XV X W ρ e6 m6) (h7 : XV X W ρ e7 m7) (hg : Gl X x := by rfl) (hdb : (x == ("__debug__" : Str)) = false := by decide)
    (s1 : starEach [e1, e2, e3, e4, e5, e6, e7] X.env = (false, eval e1 X.env) :: starEach [e2, e3, e4, e5, e6, e7] X.env := by rfl) (s2 : starEach [e2, e3, e4, e5, e6, e7] X.env = (false, eval e2 X.env) :: starEach [e3, e4, e5, e6, e7] X.env := by rfl) (s3 : starEach [e3, e4, e5, e6, e7] X.env = (false, eval e3 X.env) :: starEach [e4, e5, e6, e7] X.env := by rfl) (s4 : starEach [e4, e5, e6, e7] X.env = (false, eval e4 X.env) :: starEach [e5, e6, e7] X.env := by rfl) (s5 : starEach [e5, e6, e7] X.env = (false, eval e5 X.env) :: starEach [e6, e7] X.env := by rfl) (s6 : starEach [e6, e7] X.env = (false, eval e6 X.env) :: starEach [e7] X.env := by rfl) (s7 : starEach [e7] X.env = (false, eval e7 X.env) :: starEach [] X.env := by rfl) (hpl : (backTo pos (starEach [e2, e3, e4, e5, e6, e7] X.env)).any (·.1) = false := by rfl) :
    XV X W ρ (.Call (.Name x p) [e1, e2, e3, e4, e5, e6, e7] [] pos) (do
    let x1 ← m1
    let x2 ← m2
    let x3 ← m3
    let x4 ← m4
    let x5 ← m5
    let x6 ← m6
    let x7 ← m7
    f x1 x2 x3 x4 x5 x6 x7) := by
  have G2 : FnV X.prog X.w X.K X.mg X.base k fa fd ps (fun ds r => ∃ i : α1 × α2 × α3 × α4 × α5 × α6 × α7, ds = [toD (i.1), toD (i.2.1), toD (i.2.2.1), toD (i.2.2.2.1), toD (i.2.2.2.2.1), toD (i.2.2.2.2.2.1), toD (i.2.2.2.2.2.2)] ∧ r = (f (i.1) (i.2.1) (i.2.2.1) (i.2.2.2.1) (i.2.2.2.2.1) (i.2.2.2.2.2.1) (i.2.2.2.2.2.2)).map toD) := ⟨fun vs H Q E ⟨F, ds, r, ⟨i, e1, e2⟩, q⟩ => G.len vs H Q E ⟨F, ds, r, ⟨i.1, i.2.1, i.2.2.1, i.2.2.2.1, i.2.2.2.2.1, i.2.2.2.2.2.1, i.2.2.2.2.2.2, e1, e2⟩, q⟩, fun A outer s H args us vs Q E hr e0 hb rv ⟨F, ds, r, ⟨i, e1, e2⟩, q⟩ => G.run A outer s H args us vs Q E hr e0 hb rv ⟨F, ds, r, ⟨i.1, i.2.1, i.2.2.1, i.2.2.2.1, i.2.2.2.2.1, i.2.2.2.2.2.1, i.2.2.2.2.2.2, e1, e2⟩, q⟩⟩
  refine (XV.callI (f := fun i => f (i.1) (i.2.1) (i.2.2.1) (i.2.2.2.1) (i.2.2.2.2.1) (i.2.2.2.2.2.1) (i.2.2.2.2.2.2)) (mm := (do
    let x1 ← m1
    let x2 ← m2
    let x3 ← m3
    let x4 ← m4
    let x5 ← m5
    let x6 ← m6
    let x7 ← m7
    Res.ok (x1, x2, x3, x4, x5, x6, x7))) G2 hr tk C.mg C.kp C.bn (XA.eq (XA.cons h1 (XA.cons h2 (XA.cons h3 (XA.cons h4 (XA.cons h5 (XA.cons h6 (XA.cons h7 XA.nil s7) s6) s5) s4) s3) s2) s1) ?_) hg hdb s1 hpl).eq ?_
  · cases m1 with
    | exc c i => rfl
    | stuck => rfl
    | ok y1 =>
      cases m2 with
      | exc c i => rfl
      | stuck => rfl
      | ok y2 =>
        cases m3 with
        | exc c i => rfl
        | stuck => rfl
        | ok y3 =>
          cases m4 with
          | exc c i => rfl
          | stuck => rfl
          | ok y4 =>
            cases m5 with
            | exc c i => rfl
            | stuck => rfl
            | ok y5 =>
              cases m6 with
              | exc c i => rfl
              | stuck => rfl
              | ok y6 =>
                cases m7 with
                | exc c i => rfl
                | stuck => rfl
                | ok y7 =>
                  rfl
  · cases m1 with
    | exc c i => rfl
    | stuck => rfl
    | ok y1 =>
      cases m2 with
      | exc c i => rfl
      | stuck => rfl
      | ok y2 =>
        cases m3 with
        | exc c i => rfl
        | stuck => rfl
        | ok y3 =>
          cases m4 with
          | exc c i => rfl
          | stuck => rfl
          | ok y4 =>
            cases m5 with
            | exc c i => rfl
            | stuck => rfl
            | ok y5 =>
              cases m6 with
              | exc c i => rfl
              | stuck => rfl
              | ok y6 =>
                cases m7 with
                | exc c i => rfl
                | stuck => rfl
                | ok y7 =>
                  rfl
end
section
variable {α1 : Type} [Enc α1] {α2 : Type} [Enc α2] {α3 : Type} [Enc α3] {α4 : Type} [Enc α4] {α5 : Type} [Enc α5] {α6 : Type} [Enc α6] {α7 : Type} [Enc α7] {α8 : Type} [Enc α8] {β : Type} [Enc β]
abbrev Rn8 (f : α1 → α2 → α3 → α4 → α5 → α6 → α7 → α8 → Res β) : List PyData → Res PyData → Prop := fun ds r => ∃ x1 x2 x3 x4 x5 x6 x7 x8, ds = [toD x1, toD x2, toD x3, toD x4, toD x5, toD x6, toD x7, toD x8] ∧ r = (f x1 x2 x3 x4 x5 x6 x7 x8).map toD
theorem fn8 {P : Program} {w : World} {K : PySem.W.Frag} {mg : Str → Option Value} {base : Heap} {x qual : Str} {params : Arguments} {body : List Stmt} {scope : Scope} {fa : Addr} {fd : FuncData} {N ps : List Str} {k : Nat} {f : α1 → α2 → α3 → α4 → α5 → α6 → α7 → α8 → Res β}
    (F : FunD K x qual params body scope [] [] fa fd) (S : FnScope N ps scope) (hps : ps.length = 8 := by rfl) (hl : ps.length ≤ N.length := by decide)
    (hbody : ∀ (cdv : Value) (A : Around) (outer : List Env) (s : Shared) (H : Hp) (E : XK), GRoom k (A.deeper (envOfC qual scope s.heap.objs.size fa cdv)) → ∀ x1 x2 x3 x4 x5 x6 x7 x8,
      XB (defX P w K mg base N qual scope fa cdv A outer s H E) (defW E) [(0, SV.sh (toD x1)), (1, SV.sh (toD x2)), (2, SV.sh (toD x3)), (3, SV.sh (toD x4)), (4, SV.sh (toD x5)), (5, SV.sh (toD x6)), (6, SV.sh (toD x7)), (7, SV.sh (toD x8))] body (f x1 x2 x3 x4 x5 x6 x7 x8) (fun b => .rt (toD b))) : FnV P w K mg base (k + 1) fa fd ps (Rn8 f) := by
  refine fn_def (τ := fun _ _ => Unit) F S (fun ds r ⟨x1, x2, x3, x4, x5, x6, x7, x8, e, _⟩ => by rw [e, hps]; rfl) hl fun cdv A outer s H E hr ds r ⟨x1, x2, x3, x4, x5, x6, x7, x8, e1, e2⟩ => ?_
  subst e1 e2
  exact ⟨β, f x1 x2 x3 x4 x5 x6 x7 x8, _, hbody cdv A outer s H E hr x1 x2 x3 x4 x5 x6 x7 x8, fun c j e => by rw [e]; rfl, fun e => by rw [e]; rfl, fun t e => .inl ⟨toD t, rfl, by rw [e]; rfl⟩⟩
theorem fn8p {P : Program} {w : World} {K : PySem.W.Frag} {mg : Str → Option Value} {base : Heap} {x qual : Str} {params : Arguments} {body : List Stmt} {scope : Scope} {fa : Addr} {fd : FuncData} {N ps : List Str} {k : Nat} {f : α1 → α2 → α3 → α4 → α5 → α6 → α7 → α8 → Res Unit}
    (F : FunD K x qual params body scope [] [] fa fd) (S : FnScope N ps scope) (hps : ps.length = 8 := by rfl) (hl : ps.length ≤ N.length := by decide)
    (hbody : ∀ (cdv : Value) (A : Around) (outer : List Env) (s : Shared) (H : Hp) (E : XK), GRoom k (A.deeper (envOfC qual scope s.heap.objs.size fa cdv)) → ∀ x1 x2 x3 x4 x5 x6 x7 x8,
      XB (defX P w K mg base N qual scope fa cdv A outer s H E) (defW E) [(0, SV.sh (toD x1)), (1, SV.sh (toD x2)), (2, SV.sh (toD x3)), (3, SV.sh (toD x4)), (4, SV.sh (toD x5)), (5, SV.sh (toD x6)), (6, SV.sh (toD x7)), (7, SV.sh (toD x8))] body (f x1 x2 x3 x4 x5 x6 x7 x8) (fun _ => .nx [])) : FnV P w K mg base (k + 1) fa fd ps (Rn8 f) := by
  refine fn_def (τ := fun _ _ => Unit) F S (fun ds r ⟨x1, x2, x3, x4, x5, x6, x7, x8, e, _⟩ => by rw [e, hps]; rfl) hl fun cdv A outer s H E hr ds r ⟨x1, x2, x3, x4, x5, x6, x7, x8, e1, e2⟩ => ?_
  subst e1 e2
  exact ⟨Unit, f x1 x2 x3 x4 x5 x6 x7 x8, _, hbody cdv A outer s H E hr x1 x2 x3 x4 x5 x6 x7 x8, fun c j e => by rw [e]; rfl, fun e => by rw [e]; rfl, fun t e => .inr ⟨[], rfl, by rw [e]; rfl⟩⟩
theorem XV.fn8 {X : Cx} {W : WX} {ρ : Rs} {pos : Pos} {k : Nat} {x : Str} {fa : Addr} {fd : FuncData} {ps : List Str} {p : Pos} {e1 e2 e3 e4 e5 e6 e7 e8 : Expr} {f : α1 → α2 → α3 → α4 → α5 → α6 → α7 → α8 → Res β} {m1 : Res α1} {m2 : Res α2} {m3 : Res α3} {m4 : Res α4} {m5 : Res α5} {m6 : Res α6} {m7 : Res α7} {m8 : Res α8} (G : FnV X.prog X.w X.K X.mg X.base k fa fd ps (Rn8 f)) (C : FnC X.K X.mg x fa fd ps) (hr : GRoom k X.A) (tk : Takes X W)
    (h1 : XV X W ρ e1 m1) (h2 : XV X W ρ e2 m2) (h3 : XV X W ρ e3 m3) (h4 : XV X W ρ e4 m4) (h5 : XV X W ρ e5 m5) (h6 : XV X W ρ e6 m6) (h7 : XV X W ρ e7 m7) (h8 : XV X W ρ e8 m8) (hg : Gl X x := by rfl) (hdb : (x == ("__debug__" : Str)) = false := by decide)
    (s1 : starEach [e1, e2, e3, e4, e5, e6, e7, e8] X.env = (false, eval e1 X.env) :: starEach [e2, e3, e4, e5, e6, e7, e8] X.env := by rfl) (s2 : starEach [e2, e3, e4, e5, e6, e7, e8] X.env = (false, eval e2 X.env) :: starEach [e3, e4, e5, e6, e7, e8] X.env := by rfl) (s3 : starEach [e3, e4, e5, e6, e7, e8] X.env = (false, eval e3 X.env) :: starEach [e4, e5, e6, e7, e8] X.env := by rfl) (s4 : starEach [e4, e5, e6, e7, e8] X.env = (false, eval e4 X.env) :: starEach [e5, e6, e7, e8] X.env := by rfl) (s5 : starEach [e5, e6, e7, e8] X.env = (false, eval e5 X.env) :: starEach [e6, e7, e8] X.env := by rfl) (s6 : starEach [e6, e7, e8] X.env = (false, eval e6 X.env) :: starEach [e7, e8] X.env := by rfl) (s7 : starEach [e7, e8] X.env = (false, eval e7 X.env) :: starEach [e8] X.env := by rfl) (s8 : starEach [e8] X.env = (false, eval e8 X.env) :: starEach [] X.env := by rfl) (hpl : (backTo pos (starEach [e2, e3, e4, e5, e6, e7, e8] X.env)).any (·.1) = false := by rfl) :
    XV X W ρ (.Call (.Name x p) [e1, e2, e3, e4, e5, e6, e7, e8] [] pos) (do
    let x1 ← m1
    let x2 ← m2
    let x3 ← m3
    let x4 ← m4
    let x5 ← m5
    let x6 ← m6
    let x7 ← m7
    let x8 ← m8
    f x1 x2 x3 x4 x5 x6 x7 x8) := by
  have G2 : FnV X.prog X.w X.K X.mg X.base k fa fd ps (fun ds r => ∃ i : α1 × α2 × α3 × α4 × α5 × α6 × α7 × α8, ds = [toD (i.1), toD (i.2.1), toD (i.2.2.1), toD (i.2.2.2.1), toD (i.2.2.2.2.1), toD (i.2.2.2.2.2.1), toD (i.2.2.2.2.2.2.1), toD (i.2.2.2.2.2.2.2)] ∧ r = (f (i.1) (i.2.1) (i.2.2.1) (i.2.2.2.1) (i.2.2.2.2.1) (i.2.2.2.2.2.1) (i.2.2.2.2.2.2.1) (i.2.2.2.2.2.2.2)).map toD) := ⟨fun vs H Q E ⟨F, ds, r, ⟨i, e1, e2⟩, q⟩ => G.len vs H Q E ⟨F, ds, r, ⟨i.1, i.2.1, i.2.2.1, i.2.2.2.1, i.2.2.2.2.1, i.2.2.2.2.2.1, i.2.2.2.2.2.2.1, i.2.2.2.2.2.2.2, e1, e2⟩, q⟩, fun A outer s H args us vs Q E hr e0 hb rv ⟨F, ds, r, ⟨i, e1, e2⟩, q⟩ => G.run A outer s H args us vs Q E hr e0 hb rv ⟨F, ds, r, ⟨i.1, i.2.1, i.2.2.1, i.2.2.2.1, i.2.2.2.2.1, i.2.2.2.2.2.1, i.2.2.2.2.2.2.1, i.2.2.2.2.2.2.2, e1, e2⟩, q⟩⟩
  refine (XV.callI (f := fun i => f (i.1) (i.2.1) (i.2.2.1) (i.2.2.2.1) (i.2.2.2.2.1) (i.2.2.2.2.2.1) (i.2.2.2.2.2.2.1) (i.2.2.2.2.2.2.2)) (mm := (do
    let x1 ← m1
    let x2 ← m2
    let x3 ← m3
    let x4 ← m4
    let x5 ← m5
    let x6 ← m6
    let x7 ← m7
    let x8 ← m8
    Res.ok (x1, x2, x3, x4, x5, x6, x7, x8))) G2 hr tk C.mg C.kp C.bn (XA.eq (XA.cons h1 (XA.cons h2 (XA.cons h3 (XA.cons h4 (XA.cons h5 (XA.cons h6 (XA.cons h7 (XA.cons h8 XA.nil s8) s7) s6) s5) s4) s3) s2) s1) ?_) hg hdb s1 hpl).eq ?_
  · cases m1 with
    | exc c i => rfl
    | stuck => rfl
    | ok y1 =>
      cases m2 with
      | exc c i => rfl
      | stuck => rfl
      | ok y2 =>
        cases m3 with
        | exc c i => rfl
        | stuck => rfl
        | ok y3 =>
          cases m4 with
          | exc c i => rfl
          | stuck => rfl
          | ok y4 =>
            cases m5 with
            | exc c i => rfl
            | stuck => rfl
            | ok y5 =>
              cases m6 with
              | exc c i => rfl
              | stuck => rfl
              | ok y6 =>
                cases m7 with
                | exc c i => rfl
                | stuck => rfl
                | ok y7 =>
                  cases m8 with
                  | exc c i => rfl
                  | stuck => rfl
                  | ok y8 =>
                    rfl
  · cases m1 with
    | exc c i => rfl
    | stuck => rfl
    | ok y1 =>
      cases m2 with
      | exc c i => rfl
      | stuck => rfl
      | ok y2 =>
        cases m3 with
        | exc c i => rfl
        | stuck => rfl
        | ok y3 =>
          cases m4 with
          | exc c i => rfl
          | stuck => rfl
          | ok y4 =>
            cases m5 with
            | exc c i => rfl
            | stuck => rfl
            | ok y5 =>
              cases m6 with
              | exc c i => rfl
              | stuck => rfl
              | ok y6 =>
                cases m7 with
                | exc c i => rfl
                | stuck => rfl
                | ok y7 =>
                  cases m8 with
                  | exc c i => rfl
                  | stuck => rfl
                  | ok y8 =>
                    rfl
end
end Vs
end
section
set_option Elab.async false
set_option linter.all false
set_option maxRecDepth 100000
set_option maxHeartbeats 1000000
/-! Vs12: small things that the printed derivations ask. -/
namespace Vs
open Enc (toD)
open PySem PySem.Spec PyProof.Rows L2
section
variable {X : Cx} {W : WX} {ρ : Rs} {pos : Pos} {α β γ S τ Ω : Type} [Enc α] [Enc β] [Enc γ]
/-! ### comparisons as tests -/
theorem rdT_V {n : Nat} {K : PySem.W.Frag} {m : Res Bool} {σ : St} {H : Hp} {Q : Bool → Hp → Prop} (h : rdT K n W ρ m σ H Q) : rdV K n W ρ (m.map toD) σ H fun v H' => ∃ k, v = .bl k ∧ Q k H' := by
  obtain ⟨F0, H0, F, R, p⟩ := h
  refine ⟨F0, H0, F, R, ?_⟩
  cases m with
  | exc c i => exact p
  | stuck => exact p
  | ok b => exact fun v F1 H1 g r => ⟨b, r.bl_of, p F1 H1 g⟩
theorem XT.cmp {a b : Expr} {o : CmpOp} {f : α → β → Bool} {ma : Res α} {mb : Res β} (op : CmpOk X o f) (ha : XW X W ρ a ma) (hb : XW X W ρ b mb) (hm : behindInMarks o b = false := by first | exact nomark _ | rfl) : XT X W ρ (.Compare a [o] [b] pos) (do
    let x ← ma
    let y ← mb
    .ok (f x y)) := PT.imp (pt_cmpR op ha hb hm) fun σ H Q h => rd_cmp (a := a) (b := b) (rdT_V h)
theorem rd_chain {a b c : Expr} {f : α → β → Bool} {f' : β → γ → Bool} {ma : Res α} {mb : Res β} {mc : Res γ} {σ : St} {H : Hp} {Q : VK} (h : rdV X.K X.N.length W ρ ((do
    let x ← ma
    let y ← mb
    if f x y then do
      let z ← mc
      Res.ok (f' y z)
    else .ok false).map toD) σ H Q) : tChain (rdCmp X.K f) (rdCmp X.K f') (rdW X.K X.N.length W ρ (ma.map toD)) (rdW X.K X.N.length W ρ (mb.map toD)) (rdW X.K X.N.length W ρ (mc.map toD)) σ H Q := by
  obtain ⟨F0, H0, F, R, p⟩ := h
  rw [Res.map_bind] at p
  refine ⟨F0, H0, F, R, ?_⟩
  cases ma with
  | exc c i => exact p
  | stuck => exact p
  | ok x =>
    intro v F1 H1 g1 r1
    refine ⟨F0, H0, F1, R.grow g1, ?_⟩
    have p1 := PostV.grow g1 p
    cases mb with
    | exc c i => exact p1
    | stuck => exact p1
    | ok y =>
      intro u F2 H2 g2 r2
      have p2 := PostV.grow g2 p1
      refine ⟨F2, x, y, g2.fh, r1.grow g2, r2, f x y, rfl, ?_⟩
      simp only [Res.ok_bind] at p2
      cases e : f x y with
      | false =>
        rw [e] at p2
        exact p2 _ F2 H2 (.refl g2.fh) (.bl _)
      | true =>
        rw [e] at p2
        simp only [if_true] at p2 ⊢
        refine ⟨F0, H0, F2, (R.grow g1).grow g2, ?_⟩
        cases mc with
        | exc c i => exact p2
        | stuck => exact p2
        | ok z => exact fun w F3 H3 g3 r3 => ⟨F3, y, z, g3.fh, r2.grow g3, r3, p2 _ F3 H3 g3 (.bl _)⟩
theorem XT.chain {a b c : Expr} {o o' : CmpOp} {f : α → β → Bool} {f' : β → γ → Bool} {ma : Res α} {mb : Res β} {mc : Res γ} (op : CmpOk X o f) (op' : CmpOk X o' f') (ha : XW X W ρ a ma) (hb : XW X W ρ b mb) (hc : XW X W ρ c mc)
    (hm : lastMarks [o, o'] [b, c] = false := by rfl) : XT X W ρ (.Compare a [o, o'] [b, c] pos) (do
    let x ← ma
    let y ← mb
    if f x y then do
      let z ← mc
      .ok (f' y z)
    else .ok false) := PT.imp (pt_chain op op' ha hb hc hm) fun σ H Q h => rd_chain (a := a) (b := b) (c := c) (rdT_V h)
theorem XT.isN {a : Expr} {ma : Res (Option α)} [NN α] {j : Nat} {p2 : Pos} (ha : XW X W ρ a ma) : XT X W ρ (.Compare a [.Is] [.Constant .none j p2] pos) (do
    let x ← ma
    .ok (decide (x = none))) := by
  refine PT.imp (pt_cmp (pc_isN ha) rfl) fun σ H Q ⟨F0, H0, F, R, p⟩ => ⟨F0, H0, F, R, ?_⟩
  cases ma with
  | exc c i => exact p
  | stuck => exact p
  | ok x =>
    intro v F1 H1 g1 r1
    have e : decide (v = .non) = decide (x = none) := by rw [decide_eq_decide]; exact r1.non_iff
    exact ⟨_, by rw [e], p F1 H1 g1⟩
theorem XT.notN {a : Expr} {ma : Res (Option α)} [NN α] {j : Nat} {p2 : Pos} (ha : XW X W ρ a ma) : XT X W ρ (.Compare a [.IsNot] [.Constant .none j p2] pos) (do
    let x ← ma
    .ok (!decide (x = none))) := by
  refine PT.imp (pt_cmp (pc_notN ha) rfl) fun σ H Q ⟨F0, H0, F, R, p⟩ => ⟨F0, H0, F, R, ?_⟩
  cases ma with
  | exc c i => exact p
  | stuck => exact p
  | ok x =>
    intro v F1 H1 g1 r1
    have e : decide (v = .non) = decide (x = none) := by rw [decide_eq_decide]; exact r1.non_iff
    exact ⟨_, by rw [e], p F1 H1 g1⟩
/-- some of the slots -/
theorem wk {ρ ρ' : Rs} (ks : List Nat) (h : ρ' = keepAt ρ ks := by rfl) : ∀ p ∈ ρ', p ∈ ρ := fun p hp => by rw [h] at hp; exact keep_mem hp
def dropE {τ : Type} : Res Empty → Res τ
  | .ok e => nomatch e
  | .exc c i => .exc c i
  | .stuck => .stuck
/-- if c: A, A raises -/
theorem XB.ifX {c : Expr} {A rest : List Stmt} {mc : Res Bool} {mA : Res Empty} {mr : Res τ} {fin : τ → Fi} (hc : XT X W ρ c mc) (hA : XB X W ρ A mA fun e => nomatch e) (hr : XB X W ρ rest mr fin) : XB X W ρ (.If c A [] pos :: rest) (do
    let b ← mc
    if b then dropE mA else mr) fin := by
  refine XB.ifR hc (PSs.imp hA fun D σ H ⟨F0, H0, F, R, p⟩ => ⟨F0, H0, F, R, ?_⟩) hr fun t e => ?_
  · cases mA with
    | ok e => exact nomatch e
    | exc c i => exact p
    | stuck => exact p
  · cases mA with
    | ok e => exact nomatch e
    | exc c i => cases e
    | stuck => cases e
/-- if c: A, A leaves by a return -/
theorem XB.ifE {c : Expr} {A rest : List Stmt} {mc : Res Bool} {mA : Res Ω} {mr : Res τ} {fin : τ → Fi} {ω : Ω → Fi} (exit : Ω → τ) (he : ∀ o, fin (exit o) = ω o) (hω : ∀ o ρ', ω o ≠ .nx ρ') (hc : XT X W ρ c mc) (hA : XB X W ρ A mA ω) (hr : XB X W ρ rest mr fin) :
    XB X W ρ (.If c A [] pos :: rest) (do
    let b ← mc
    if b then (do
      let o ← mA
      .ok (exit o)) else mr) fin := by
  have hA2 : XB X W ρ A (mA.map exit) fin := XB.map_fin (by
    have e : (fun s => fin (exit s)) = ω := funext he
    rw [e]; exact hA)
  rw [Res.map_eq_bind] at hA2
  refine XB.ifR hc hA2 hr fun t e ρ' h => ?_
  cases mA with
  | exc c i => cases e
  | stuck => cases e
  | ok o => cases e; rw [he] at h; exact hω o ρ' h
/-- target = e, the target names in a tuple -/
theorem XB.asgT (is : List Nat) {tg e : Expr} {rest : List Stmt} {me : Res α} {mr : α → Res τ} {fin : τ → Fi} (ρ' : α → Rs) (hN : X.N.Nodup) (he : XV X W ρ e me) (hg : ∀ x, XG X is ρ tg (toD x) (ρ' x)) (hr : ∀ x, XB X W (ρ' x) rest (mr x) fin)
    (hs : swapsWithSole [tg] e pos.line X.env = pure false := by rfl) (hw : swappedStores [tg] e X.env = pure none := by rfl) (h1 : (assignEach [tg] X.env).map (·.2) = [assign tg X.env] := by rfl) : XB X W ρ (.Assign [tg] e pos :: rest) (do
    let x ← me
    mr x) fin := by
  refine PSs.imp (pss_cons (ps_asg he (PG.ex (t := fun x => rdG X.K X.N.length is ρ (toD x) (ρ' x)) hg) hs hw h1) (PSs.ex hr)) fun D σ H ⟨F0, H0, F, R, p⟩ => ⟨F0, H0, F, R, ?_⟩
  have q := PostS.bind R p
  cases me with
  | exc c i => exact q
  | stuck => exact q
  | ok x =>
    intro v F1 H1 g r
    exact ⟨x, F0, H0, F1, R.grow g, r, fun σ' R' _ => ⟨x, F0, H0, F1, R', PostS.sub g.f p⟩⟩
theorem XV.min2 {a b : Expr} {p : Pos} {ma mb : Res Int} (hm : X.mg "min" = none) (ha : XV X W ρ a ma) (hb : XV X W ρ b mb) (hc : X.calm = true := by rfl) (hg : Gl X "min" := by rfl) (hs : starEach [a, b] X.env = (false, eval a X.env) :: starEach [b] X.env := by rfl) (hs2 : starEach [b] X.env = [(false, eval b X.env)] := by rfl) : XV X W ρ (.Call (.Name "min" p) [a, b] [] pos) (do
    let i ← ma
    let j ← mb
    .ok (Vs.min2 i j)) := XV.call2 (call_min2 hc) hg hm (by rfl) ha hb (by decide) (by decide) hs hs2
theorem XV.max2 {a b : Expr} {p : Pos} {ma mb : Res Int} (hm : X.mg "max" = none) (ha : XV X W ρ a ma) (hb : XV X W ρ b mb) (hc : X.calm = true := by rfl) (hg : Gl X "max" := by rfl) (hs : starEach [a, b] X.env = (false, eval a X.env) :: starEach [b] X.env := by rfl) (hs2 : starEach [b] X.env = [(false, eval b X.env)] := by rfl) : XV X W ρ (.Call (.Name "max" p) [a, b] [] pos) (do
    let i ← ma
    let j ← mb
    .ok (Vs.max2 i j)) := XV.call2 (call_max2 hc) hg hm (by rfl) ha hb (by decide) (by decide) hs hs2
theorem rgV_eq (a b : Int) : rgV a b = (rangeL a b).map V.int := by
  unfold rgV rangeL
  rw [List.map_map]; rfl
theorem rangeR_ok {a b : Int} {xs : List Int} (h : rangeR a b = .ok xs) : RgOk a b ∧ xs = rangeL a b := by
  unfold rangeR at h
  split at h
  · rename_i q; cases h; exact ⟨⟨q.1, q.2.1, q.2.2.1, q.2.2.2.1, q.2.2.2.2⟩, rfl⟩
  · cases h
theorem rangeR_no {a b : Int} {c : Str} {i : Int} : rangeR a b ≠ .exc c i := by unfold rangeR; split <;> intro h <;> cases h
theorem post_range {K : PySem.W.Frag} {W : WX} {F H F1 H1 : Hp} {a b : Int} {Q : VK} (g : Grow F H F1 H1) (p : PostF K W F H ((rangeR a b).map toD) Q) : RgOk a b ∧ ∀ q, H1 q = none → Q (.ref q) (upd H1 q (.lst (rgV a b))) := by
  cases e : rangeR a b with
  | exc c i => exact absurd e rangeR_no
  | stuck => rw [e] at p; exact p.elim
  | ok xs =>
    obtain ⟨h1, rfl⟩ := rangeR_ok e
    rw [e] at p
    refine ⟨h1, fun q nq => p q F1 _ (g.trans (.own g.fh nq)) (sub_free g.h nq) ⟨sub_free g.fh nq, .inl ⟨_, _, upd_same, ?_, rfl⟩⟩⟩
    rw [rgV_eq]
    exact rp_ints _
/-- list(range(b)) -/
theorem XF.listR1 {b : Expr} {p p2 pos2 : Pos} {mb : Res Int} (hc : X.calm = true) (hm : X.mg "list" = none) (hm2 : X.mg "range" = none) (hb : XV X W ρ b mb) (hg : Gl X "list" := by rfl) (hg2 : Gl X "range" := by rfl)
    (hs : starEach [b] X.env = (false, eval b X.env) :: starEach [] X.env := by rfl) (hs2 : starEach [.Call (.Name "range" p2) [b] [] pos2] X.env = (false, eval (.Call (.Name "range" p2) [b] [] pos2) X.env) :: starEach [] X.env := by rfl) :
    XF X W ρ (.Call (.Name "list" p) [.Call (.Name "range" p2) [b] [] pos2] [] pos) (do
    let n ← mb
    rangeR 0 n) := by
  refine PE.imp (pe_listRg hc hg hm (prg_1 hg2 hm2 hb hs) hs2) fun σ H Q ⟨F0, H0, F, R, p⟩ => ⟨F0, H0, F, R, ?_⟩
  cases mb with
  | exc c i => exact p
  | stuck => exact p
  | ok n => exact fun v F1 H1 g r => ⟨n, r.int_of, post_range g p⟩
/-- list(range(a, b)) -/
theorem XF.listR2 {a b : Expr} {p p2 pos2 : Pos} {ma mb : Res Int} (hc : X.calm = true) (hm : X.mg "list" = none) (hm2 : X.mg "range" = none) (ha : XV X W ρ a ma) (hb : XV X W ρ b mb) (hg : Gl X "list" := by rfl) (hg2 : Gl X "range" := by rfl)
    (hs : starEach [a, b] X.env = (false, eval a X.env) :: starEach [b] X.env := by rfl) (hs1 : starEach [b] X.env = (false, eval b X.env) :: starEach [] X.env := by rfl) (hp : (backTo pos2 (starEach [b] X.env)).any (·.1) = false := by rfl)
    (hs2 : starEach [.Call (.Name "range" p2) [a, b] [] pos2] X.env = (false, eval (.Call (.Name "range" p2) [a, b] [] pos2) X.env) :: starEach [] X.env := by rfl) :
    XF X W ρ (.Call (.Name "list" p) [.Call (.Name "range" p2) [a, b] [] pos2] [] pos) (do
    let x ← ma
    let y ← mb
    rangeR x y) := by
  refine PE.imp (pe_listRg hc hg hm (prg_2 hg2 hm2 ha hb hs hs1 hp) hs2) fun σ H Q ⟨F0, H0, F, R, p⟩ => ⟨F0, H0, F, R, ?_⟩
  cases ma with
  | exc c i => exact p
  | stuck => exact p
  | ok x =>
    intro v F1 H1 g1 r1
    refine ⟨F0, H0, F1, R.grow g1, ?_⟩
    cases mb with
    | exc c i => exact excG g1 p
    | stuck => exact p
    | ok y =>
      intro u F2 H2 g2 r2
      exact ⟨x, y, r1.int_of, r2.int_of, post_range (g1.trans g2) p⟩
/-- a display of some more -/
theorem XF.lstN {es : List Expr} {m : Res (List α)} (h : XL X W ρ es m) (hl : ∀ xs, m = .ok xs → xs.length ≤ 1000) : XF X W ρ (.List es pos) m := XF.lst h hl
end
end Vs
end
section
set_option Elab.async false
set_option linter.all false
set_option maxRecDepth 100000
set_option maxHeartbeats 2000000
/-! Vs13: the module's own errors: made by C(n), C a class under DigError(ValueError), whose __init__ says super().__init__(at); self.at = at. -/
namespace Vs
open Enc (toD)
open PySem PySem.Spec PyProof.Rows L2
/-! ### the text of __init__ -/
def dgA (p1 p2 : Pos) : Arguments := { posonlyargs := [], args := [{ arg := "self", annotation := none, pos := p1 }, { arg := "at", annotation := none, pos := p2 }], vararg := none, kwonlyargs := [], kw_defaults := [], kwarg := none, defaults := [] }
def dgB (q : Nat → Pos) : List Stmt := [.Expr (.Call (.Attribute (.Call (.Name "super" (q 0)) [] [] (q 1)) "__init__" (q 2)) [.Name "at" (q 3)] [] (q 4)) (q 5), .Assign [.Attribute (.Name "self" (q 6)) "at" (q 7)] (.Name "at" (q 8)) (q 9)]
def scOk (sc : Scope) : Bool := decide (sc.kind = .function) && (!sc.isCoroutine) && (!sc.isGenerator) && decide (sc.names.lookup ("self" : Str) = some .local) && decide (sc.names.lookup ("at" : Str) = some .local) && decide (sc.names.lookup ("super" : Str) = some .globalImplicit) &&
  decide (sc.names.lookup ("__class__" : Str) = some .free) && sc.names.all fun y => decide (y.2 ≠ .cell)
/-- the function's datum has this text; D is what its cell holds -/
def fdOk (K : PySem.W.Frag) (file : Str) (D : Addr) (fd : FuncData) : Bool := match fd with
  | ⟨_, qn, ⟨[], [⟨a1, none, _⟩, ⟨a2, none, _⟩], none, [], [], none, []⟩, .stmts [.Expr (.Call (.Attribute (.Call (.Name s1 _) [] [] _) m1 r2) [.Name n1 _] [] r4) _, .Assign [.Attribute (.Name n2 _) f1 _] (.Name n3 _) _], sc, g, [(cl, cc)], .none, .none, _, _, _, .ref cda, _, b⟩ =>
    (r2.endLine == r4.line) &&
    decide (a1 = "self") && decide (a2 = "at") && decide (s1 = "super") && decide (m1 = "__init__") && decide (n1 = "at") && decide (n2 = "self") && decide (f1 = "at") && decide (n3 = "at") && decide (cl = "__class__") && decide (g = mainGlobals) && decide (b = builtinsNs) && scOk sc &&
      PySem.W.codeIn K (.ref cda) qn && (match K.lookup cda with | some ⟨_, _, .fields vs, _⟩ => (match (vs[2]? : Option Value) with | some (.str fl _) => fl == file | _ => false) | _ => false) &&
      (match K.lookup cc with | some ⟨_, _, .cell (some (.ref d)), _⟩ => decide (d = D) | _ => false)
  | _ => false
/-- what that says -/
structure DgFn (K : PySem.W.Frag) (file : Str) (D : Addr) (fd : FuncData) : Prop where
  ex : ∃ (name qn : Str) (p1 p2 : Pos) (q : Nat → Pos) (sc : Scope) (cc cda : Addr) (doc pm ct : Value) (an : Option Addr), fd = PySem.W.ksFn name qn (dgA p1 p2) (dgB q) sc .none .none doc pm an (.ref cda) ct cc ∧ scOk sc = true ∧ ((q 2).endLine == (q 4).line) = true ∧ PySem.W.codeIn K (.ref cda) qn = true ∧
    (∃ a b vs c fl t, K.lookup cda = some ⟨a, b, .fields vs, c⟩ ∧ vs[2]? = some (.str fl t) ∧ (fl == file) = true) ∧ ∃ a b c, K.lookup cc = some ⟨a, b, .cell (some (.ref D)), c⟩
theorem fdOk_ok {K : PySem.W.Frag} {file : Str} {D : Addr} {fd : FuncData} (h : fdOk K file D fd = true) : DgFn K file D fd := by
  unfold fdOk at h
  split at h
  · rename_i name qn a1 P1 a2 P2 s1 r0 r1 m1 r2 n1 r3 r4 r5 n2 r6 f1 r7 n3 r8 r9 sc g cl cc doc pm an cda ct b
    simp only [Bool.and_eq_true, decide_eq_true_eq] at h
    obtain ⟨⟨⟨⟨⟨⟨⟨⟨⟨⟨⟨⟨⟨⟨⟨h0, h1⟩, h2⟩, h3⟩, h4⟩, h5⟩, h6⟩, h7⟩, h8⟩, h9⟩, h10⟩, h11⟩, h12⟩, h13⟩, h14⟩, h15⟩ := h
    subst h1 h2 h3 h4 h5 h6 h7 h8 h9 h10 h11
    refine ⟨name, qn, P1, P2, fun i => [r0, r1, r2, r3, r4, r5, r6, r7, r8, r9].getD i r0, sc, cc, cda, doc, pm, ct, an, rfl, h12, h0, h13, ?_, ?_⟩
    · split at h14
      · rename_i a b vs c e
        split at h14
        · rename_i fl t e2
          exact ⟨a, b, vs, c, fl, t, e, e2, h14⟩
        · cases h14
      · cases h14
    · split at h15
      · rename_i a b d c e
        have := of_decide_eq_true h15
        subst this
        exact ⟨a, b, c, e⟩
      · cases h15
  · cases h
/-! ### the class -/
def clsOk (K : PySem.W.Frag) (C : Addr) : Bool := match K.lookup C with
  | some ⟨.type "type", _, .cls cd, sl⟩ => (match cd.mro, sl.toList with
    | .ref C' :: bm, [_, _, _, _, some (.builtin n), _] => C' == C && n == "ValueError.__new__" && !cd.hasDel && cd.hasDict && PySem.HandSPX.refsVE bm
    | _, _ => false)
  | _ => false
theorem clsOk_ok {K : PySem.W.Frag} {C : Addr} (h : clsOk K C = true) : ∃ nm q N bs bm sn sub ab col dd k0 k1 k2 k3 k5, K.lookup C = some (excClassObj nm q C N bs bm true sn sub ab col dd k0 k1 k2 k3 k5 "ValueError.__new__") ∧ PySem.HandSPX.refsVE bm = true := by
  unfold clsOk at h
  split at h
  · rename_i dd cd sl ho
    split at h
    · rename_i C' bm k0 k1 k2 k3 n k5 hm hs
      simp only [Bool.and_eq_true, beq_iff_eq, Bool.not_eq_true'] at h
      obtain ⟨⟨⟨⟨rfl, rfl⟩, hdel⟩, hdc⟩, ht⟩ := h
      obtain ⟨nm, bs, mro, ns, qn, hd, sn, sub, ab, col, del⟩ := cd
      dsimp only at hm hdel hdc
      subst hm hdel hdc
      obtain ⟨l⟩ := sl
      simp only at hs
      subst hs
      exact ⟨nm, qn, ns, bs, bm, sn, sub, ab, col, dd, k0, k1, k2, k3, k5, ho, ht⟩
    · cases h
  · cases h
/-- all that is asked of the class c, its base D and the __init__ -/
def digB (file : Str) (K : PySem.W.Frag) (D c : Str) : Bool :=
  let C := He.ga K c
  let B := He.ga K D
  decide (PySem.W.nsIn K mainGlobals c = some (some (.ref C))) && clsOk K C && decide (PySem.W.findIn K (.ref C) "__setattr__" = some (some (.builtin "object.__setattr__"))) && xfB K C && decide (PySem.W.findIn K (.ref C) "at" = some none) &&
    decide (PySem.W.typeIn K (.ref C) = some (.type "type")) && PySem.W.keepIn K (.ref C) && decide (PySem.W.nsIn K cStatics "thirdparty.any" = some none) && decide (PySem.W.nsIn K mainGlobals "super" = some none) && decide (PySem.W.mroIn K C (.ref B) = some true) &&
    decide (PySem.W.ks_superIn K C B "__init__" = some (some (.builtin "ValueError.__init__"))) && (PySem.W.clsIn K B).isSome &&
    (match PySem.W.findIn K (.ref C) "__init__" with
      | some (some (.ref f)) => decide (PySem.W.typeIn K (.ref f) = some (.type "function")) && (match K.lookup f with | some ⟨_, _, .func fd, _⟩ => fdOk K file B fd | _ => false)
      | _ => false)
structure DigT (P : Program) (K : PySem.W.Frag) (mg : Str → Option Value) (c : Str) : Prop where
  gC : mg c = some (.ref (He.ga K c))
  cls : ∃ nm q N bs bm sn sub ab col dd k0 k1 k2 k3 k5, K.lookup (He.ga K c) = some (excClassObj nm q (He.ga K c) N bs bm true sn sub ab col dd k0 k1 k2 k3 k5 "ValueError.__new__") ∧ PySem.HandSPX.refsVE bm = true
  sa : PySem.W.findIn K (.ref (He.ga K c)) "__setattr__" = some (some (.builtin "object.__setattr__"))
  xf : XfC K (He.ga K c)
  noN : PySem.W.findIn K (.ref (He.ga K c)) "at" = some none
  tyC : PySem.W.typeIn K (.ref (He.ga K c)) = some (.type "type")
  kC : PySem.W.keepIn K (.ref (He.ga K c)) = true
  opq : PySem.W.nsIn K cStatics "thirdparty.any" = some none
  sup : mg "super" = none
  D : ∃ D, PySem.W.mroIn K (He.ga K c) (.ref D) = some true ∧ PySem.W.ks_superIn K (He.ga K c) D "__init__" = some (some (.builtin "ValueError.__init__")) ∧ (PySem.W.clsIn K D).isSome = true ∧
    ∃ fI oc od fd osl, PySem.W.findIn K (.ref (He.ga K c)) "__init__" = some (some (.ref fI)) ∧ PySem.W.typeIn K (.ref fI) = some (.type "function") ∧ K.lookup fI = some ⟨oc, od, .func fd, osl⟩ ∧ DgFn K P.main.file D fd
  top : (P.main.scope.names.lookup ("super" : Str)).isSome = false
theorem digB_ok {P : Program} {K : PySem.W.Frag} {h : Heap} {mg : Str → Option Value} (X : K.In h) (G : h.Ns mainGlobals mg) {D c : Str} (q : digB P.main.file K D c = true) (top : (P.main.scope.names.lookup ("super" : Str)).isSome = false) : DigT P K mg c := by
  unfold digB at q
  simp only [Bool.and_eq_true, decide_eq_true_eq] at q
  obtain ⟨⟨⟨⟨⟨⟨⟨⟨⟨⟨⟨⟨h1, h2⟩, h3⟩, h4⟩, h5⟩, h6⟩, h7⟩, h8⟩, h9⟩, h10⟩, h11⟩, h12⟩, h13⟩ := q
  refine ⟨PySem.W.mg_of X G h1, clsOk_ok h2, h3, xfB_ok h4, h5, h6, h7, h8, PySem.W.mg_none_of X G h9, ⟨He.ga K D, h10, h11, h12, ?_⟩, top⟩
  split at h13
  · rename_i f e
    simp only [Bool.and_eq_true, decide_eq_true_eq] at h13
    obtain ⟨t1, t2⟩ := h13
    split at t2
    · rename_i oc od fd osl e2
      exact ⟨f, oc, od, fd, osl, e, t1, e2, fdOk_ok t2⟩
    · cases t2
  · cases h13
/-! ### __init__ runs -/
section
open PySem.W PySem.Calls
variable {P : Program} {w : World} {A : Around} {E : Value → Shared → Prop} {R : Result → Shared → Prop} {K : PySem.W.Frag}
/-- super().__init__, bound, is called -/
theorem call_mw {hh : Heap} {g : Array GenState} {d : Drawn} {t : Nat} {os : OsState} {nm q : Str} {C N : Addr} {bs bm : List Value} {hdct : Bool} {sn : List Str} {sub : List Value} {ab : Bool} {col : Option Bool} {dd : Option Addr} {k0 k1 k2 k3 k5 : Option Value} {u e t0 : Addr} {rest : List Value} {Q : Value → Shared → Prop}
    (hC : hh.get? C = some (excClassObj nm q C N bs bm hdct sn sub ab col dd k0 k1 k2 k3 k5 "ValueError.__new__")) (he : hh.get? e = some (PySem.HandSPX.excO C t0)) (hu : hh.get? u = some (kxs_mw "ValueError.__init__" e)) (hrest : rest.length ≤ sizeLine)
    (hq : ∀ h' t1, (∀ b o, b ≠ e → hh.get? b = some o → h'.get? b = some o) → h'.get? e = some (PySem.HandSPX.excO C t1) → Q .none ⟨h', g, d, t, os⟩) :
    wpAny (model P w) A (call (.ref u) rest) Q E ⟨hh, g, d, t, os⟩ := by
  refine wpAny_call (codeAny_of_tree ?_)
  show wpAny _ A.in1 (callAny (.ref u) ⟨rest, []⟩) _ _ _
  simp only [callAny]
  refine wpAny_bind (wpAny_load hu ?_)
  simp only [kxs_mw, show (Value.type "method-wrapper" == Value.type "method" || Value.type "method-wrapper" == Value.type "builtin_function_or_method" || Value.type "method-wrapper" == Value.type "method-wrapper") = true by decide, if_true]
  refine KFB.if_so (by decide) (wpAny_bind (PySem.ESX.check_bound F.excBase_ValueError hC he rfl (wpAny_bind (wpAny_pure (wpAny_pure ⟨Code.quiet_builtin _ (by decide +kernel), codeAny_builtin F.excBase_ValueError.initEntry ?_⟩)))))
  rw [Around.under_plainId F.excBase_ValueError.init.plain _]
  wp_walk
  refine hq _ hh.objs.size (fun b o hb ho => (Heap.get?_update_other _ _ (Ne.symm hb)).trans (Heap.get?_push_of_some _ ho)) ?_
  rw [Heap.get?_update_self _ (Heap.get?_push_of_some _ he) rfl]; rfl
structure DgEnd (h h' : Heap) (x C dx t1 : Addr) (v : Value) : Prop where
  keep : ∀ b o, b ≠ x → h.get? b = some o → h'.get? b = some o
  obj : h'.get? x = some { cls := .ref C, dict := some dx, data := .fields #[.ref t1, .none, .none, .none, .bool false, .none] }
  dbig : h.objs.size ≤ dx
  dne : dx ≠ x
  ns : h'.Ns1 dx (fun y => if y = "at" then some v else none)
theorem dg_init {mg mb : Str → Option Value} {c : Str} {s : Shared} {x t0 : Addr} {v : Value} (T : DigT P K mg c) (X : K.In s.heap) (hG : s.heap.Ns mainGlobals mg) (hB : s.heap.Ns builtinsNs mb) (hbb : ∀ x : Str, x ≠ "__name__" → mb x = bootBuiltins x) (hlim : s.heap.NoLimit)
    (hx : s.heap.get? x = some (PySem.HandSPX.excO (He.ga K c) t0)) (hnx : K.lookup x = none) (hroom : A.depth < recursionLimit) {fI : Addr} (hfI : findIn K (.ref (He.ga K c)) "__init__" = some (some (.ref fI)))
    (hq : ∀ h' tk dx t1, DgEnd s.heap h' x (He.ga K c) dx t1 v → R (.ok (.ret .none)) { s with heap := h', toks := tk }) : codeAny (model P w) A (.call (.ref fI) ⟨[.ref x, v], []⟩) R s := by
  obtain ⟨D, hmro, hsup, hcD, fI', oc, od, fd, osl, e1, hty, lk, Fd⟩ := T.D
  rw [hfI] at e1
  obtain rfl : fI = fI' := by cases e1; rfl
  obtain ⟨name, qn, p1, p2, q, sc, cc, cda, doc, pm, ct, an, rfl, hsc, hline, hcode, ⟨ca, cb, vs, c4, fl, tf, hcda, hvs, hfile⟩, ⟨la, lb, lc, hcell⟩⟩ := Fd.ex
  unfold scOk at hsc
  simp only [Bool.and_eq_true, decide_eq_true_eq, Bool.not_eq_true'] at hsc
  obtain ⟨⟨⟨⟨⟨⟨⟨k1, k2⟩, k3⟩, k4⟩, k5⟩, k6⟩, k7⟩, k8⟩ := hsc
  obtain ⟨nm, qq, N, bs, bm, sn, sub, ab, col, dd, j0, j1, j2, j3, j5, hC, hbm⟩ := T.cls
  have hcl : clsIn K (He.ga K c) = some { name := nm, bases := bs, mro := .ref (He.ga K c) :: bm, ns := N, qualname := qq, hasDict := true, slotNames := sn, subclasses := sub, abstract := ab, collection := col, hasDel := false } := by unfold clsIn; rw [hC] <;> rfl
  refine ks_codeAny_call_defAt (binds := [("self", .ref x), ("at", v)]) hroom (X _ _ lk) rfl hlim (codeRec_of X hcode) rfl (BindsTo.of_eq (by first | rfl | with_unfolding_all rfl)) (fun y hy => of_decide_eq_true (List.all_eq_true.mp k8 y hy)) (fun y hy => ?_) (fun h1 hns kp => ?_) k2 k3 k1
  · rcases List.mem_cons.mp hy with e | hy
    · rw [e]; exact k4
    · rw [List.mem_singleton.mp hy]; exact k5
  have X1 : K.In h1 := X.keeps kp
  have hx1 := kp _ _ hx
  have hG1 : h1.Ns mainGlobals mg := let ⟨o, es, ep, a1, a2, a3⟩ := hG; ⟨o, es, ep, kp _ _ a1, a2, a3⟩
  have hB1 : h1.Ns builtinsNs mb := let ⟨o, es, ep, a1, a2, a3⟩ := hB; ⟨o, es, ep, kp _ _ a1, a2, a3⟩
  have I1 : InstAt h1 x (PySem.HandSPX.excO (He.ga K c) t0) (He.ga K c) none := ⟨hx1, rfl, rfl, trivial⟩
  have hself : (List.lookup ("self" : Str) ([("self", Value.ref x), ("at", v)] : List (Str × Value)).reverse) = some (.ref x) := by first | rfl | with_unfolding_all rfl | kernel_rfl
  have hat : (List.lookup ("at" : Str) ([("self", Value.ref x), ("at", v)] : List (Str × Value)).reverse) = some v := by first | rfl | with_unfolding_all rfl | kernel_rfl
  obtain ⟨cdD, ecD⟩ := Option.isSome_iff_exists.mp hcD
  obtain ⟨oD, hD1, hD2⟩ : ∃ oD, h1.get? D = some oD ∧ oD.data = .cls cdD := by
    unfold clsIn at ecD
    split at ecD
    · rename_i a b cd' sl ho
      cases ecD
      exact ⟨_, X1 _ _ ho, rfl⟩
    · cases ecD
  have hal : alongIn K "__init__" (((Value.ref (He.ga K c) :: bm).dropWhile (· != .ref D)).drop 1) = some (some (.builtin "ValueError.__init__")) := by
    have := hsup
    unfold ks_superIn at this
    rw [hcl] at this
    exact this
  have hxs : s.heap.objs.size ≠ x := Nat.ne_of_gt (Heap.lt_size hx)
  have he : ∀ env : Env, eval (.Call (.Attribute (.Call (.Name "super" (q 0)) [] [] (q 1)) "__init__" (q 2)) [.Name "at" (q 3)] [] (q 4)) env = (do
      let ov ← attributeBase (.Call (.Name "super" (q 0)) [] [] (q 1)) "__init__" env (eval (.Call (.Name "super" (q 0)) [] [] (q 1)) env)
      standAt (q 2).atName
      let (f, first) ← holding [ov] (getMethod ov "__init__" (do return (← importBound (.Call (.Name "super" (q 0)) [] [] (q 1)) env).getD true))
      callWith (q 4) f first (backTo (q 4) (starEach [.Name "at" (q 3)] env)) []) := fun env => by
    have hform : methodCallForm (([Expr.Name "at" (q 3)] : List Expr).length + ([] : List Keyword).length) (backTo (q 4) (starEach [.Name "at" (q 3)] env)) (backToKw (q 4) (keywordEach [] env)) = true := rfl
    have hpos : methodCallPos true (.Call (.Name "super" (q 0)) [] [] (q 1)) env (q 2) (q 4) = pure (q 4) := by unfold methodCallPos; simp [hline]
    rw [arm_eval_Call]
    unfold methodCall calleeOf
    simp only [hform, hpos, pure_bind, if_true]
    rfl
  have hinter : ∀ L, interactive (callEnv (ksFn name qn (dgA p1 p2) (dgB q) sc .none .none doc pm an (.ref cda) ct cc) L fI) = false := fun L => by
    unfold interactive
    simp [callEnv, newEnv, k1]
  -- super().__init__(at)
  refine ks_wpAt_execs_cons (ks_wpAt_Expr_any (ks_wpAt_MethodCall (ks_wpAt_super_base (env := ksEnv qn sc s.heap.objs.size fI (.ref cda) cc) k6 k7 (by decide) rfl (X1 _ _ lk) rfl rfl rfl (X1 _ _ hcda) rfl hvs (by rw [beq_iff_eq] at hfile ⊢; exact hfile.symm) T.top ?_) (he _)) (hinter _))
  refine ks_loadName_global k1 k6 (loadGlobal_builtin (env := ksEnv qn sc s.heap.objs.size fI (.ref cda) cc) hG1 T.sup hB1 ((hbb _ (by decide +kernel)).trans (by kernel_rfl)) ⟨rfl, ?_⟩)
  refine wpAny_loadName_free k1 k7 rfl ⟨_, X1 _ _ hcell, rfl⟩ ?_
  refine wpAny_loadName_local k1 k4 hns hself ?_
  refine ks_wpAny_isType_cls hD1 hD2 ⟨rfl, ?_⟩
  refine ks_wpAny_call_super hD1 hD2 I1.at_ I1.cls (fun c e => by cases e) (looks_mroIn X1 hmro) (fun h2 eso k2 => ?_)
  have X2 : K.In h2 := X1.keeps k2
  have hx2 := k2 _ _ hx1
  refine kxs_getMethod kxs_ValueError (l₀ := .ref (He.ga K c) :: bm) eso (looks_opaque X2 T.opq) (fun A Q E s k q => wpAny_bind ((looks_clsIn X2 hcl) A _ E s k (wpAny_pure q))) rfl X2 hal ((InstAt.type (⟨hx2, rfl, rfl, trivial⟩ : InstAt h2 x (PySem.HandSPX.excO (He.ga K c) t0) (He.ga K c) none)).andThen (looks_mroIn X2 (by
    unfold mroIn
    rw [hcl, Option.bind_some]
    have e1 : (Value.ref (He.ga K c) :: bm).contains (.type "ValueError") = true := by
      rw [List.contains_cons, PySem.HandSPX.refsVE_contains "ValueError" bm hbm, Bool.or_eq_true]; exact .inr (by decide +kernel)
    rw [if_neg (show ¬ (List.isEmpty (Value.ref (He.ga K c) :: bm) = true) from Bool.false_ne_true), e1]))) (ks_ne X2 (⟨hx2, rfl, rfl, trivial⟩ : InstAt h2 x (PySem.HandSPX.excO (He.ga K c) t0) (He.ga K c) none) hcl) (by decide) ?_
  have k3 : ∀ b o, h1.get? b = some o → (h2.push (kxs_mw "ValueError.__init__" x)).get? b = some o := fun b o e => Heap.get?_push_of_some _ (k2 b o e)
  have hu3 : (h2.push (kxs_mw "ValueError.__init__" x)).get? h2.objs.size = some (kxs_mw "ValueError.__init__" x) := Heap.get?_push_at rfl rfl
  have X3 : K.In (h2.push (kxs_mw "ValueError.__init__" x)) := X1.keeps k3
  have ns3 : (h2.push (kxs_mw "ValueError.__init__" x)).Ns s.heap.objs.size (fun y => List.lookup y ([("self", Value.ref x), ("at", v)] : List (Str × Value)).reverse) := let ⟨o, es, ep, a1, a2, a3⟩ := hns; ⟨o, es, ep, k3 _ _ a1, a2, a3⟩
  refine kxs_callWith (i := "ValueError.__init__") (x := x) rfl (evalArgs_plain ?_)
  refine Calls.spliced_cons (ldc k1 k5 ns3 hat (Calls.spliced_nil ⟨hu3, ?_⟩))
  refine call_mw (X3 _ _ hC) (k3 _ _ hx1) hu3 (by show 1 ≤ sizeLine; rw [sizeLine_eq]; omega) fun h4 t1 m4 hx4 => ?_
  have X4 : K.In h4 := fun a o e => m4 a o (fun z => by rw [z, hnx] at e; cases e) (X3 a o e)
  have ns4 : h4.Ns s.heap.objs.size (fun y => List.lookup y ([("self", Value.ref x), ("at", v)] : List (Str × Value)).reverse) := let ⟨o, es, ep, a1, a2, a3⟩ := ns3; ⟨o, es, ep, m4 _ _ hxs a1, a2, a3⟩
  -- self.at = at
  refine wpAt_of_wpAny (wpAny_execs_cons (plainObj_wpAny_Assign_Attribute ?_))
  refine ldc k1 k5 ns4 hat (ldc k1 k4 ns4 hself ?_)
  refine set_plain X4 (ox := PySem.HandSPX.excO (He.ga K c) t1) (od := none) ⟨hx4, rfl, rfl, trivial⟩ T.sa ?_
  refine PySem.HandSPX.exc_osa X4 hx4 hcl (show PySem.HandSPX.refsVE (.ref (He.ga K c) :: bm) = true from hbm) rfl T.noN (fun h5 tk5 dx q5 dn dne hx5 hn5 => ?_)
  refine wpAny_execs_nil (hq h5 tk5 dx t1 ⟨fun b o hb e => q5 b o hb (m4 b o hb (k3 b o (kp b o e))), hx5, ?_, dne, hn5⟩)
  have z : s.heap.objs.size < h4.objs.size := ns4.lt
  exact Nat.le_of_lt (Nat.lt_of_lt_of_le z dn)
/-- a made one -/
structure DgMade (h h' : Heap) (e C d : Addr) (v : Value) : Prop where
  keep : ∀ b o, h.get? b = some o → h'.get? b = some o
  new : h.objs.size ≤ e
  obj : ∃ oe vs, h'.get? e = some oe ∧ oe.cls = .ref C ∧ oe.dict = some d ∧ oe.data = .fields vs ∧ vs[1]? = some .none
  dbig : h.objs.size ≤ d
  dne : d ≠ e
  ns : h'.Ns1 d (fun y => if y = "at" then some v else none)
theorem ns_keep {h h' : Heap} {L : Addr} {m : Str → Option Value} (k : ∀ b o, h.get? b = some o → h'.get? b = some o) (n : h.Ns L m) : h'.Ns L m := let ⟨o, es, ep, a1, a2, a3⟩ := n; ⟨o, es, ep, k _ _ a1, a2, a3⟩
theorem dg_made {mg mb : Str → Option Value} {c : Str} {s : Shared} {v : Value} (T : DigT P K mg c) (X : K.In s.heap) (hG : s.heap.Ns mainGlobals mg) (hB : s.heap.Ns builtinsNs mb) (hbb : ∀ x : Str, x ≠ "__name__" → mb x = bootBuiltins x) (hlim : s.heap.NoLimit) (hroom : A.depth + 1 < recursionLimit)
    (hq : ∀ h' tk e d, DgMade s.heap h' e (He.ga K c) d v → R (.ok (.ret (.ref e))) { s with heap := h', toks := tk }) : codeAny (model P w) A (.call (.ref (He.ga K c)) ⟨[v], []⟩) R s := by
  obtain ⟨nm, q, N, bs, bm, sn, sub, ab, col, dd, k0, k1, k2, k3, k5, hC, hbm⟩ := T.cls
  obtain ⟨D, _, _, _, fI, oc, od, fd, osl, e1, hty, _, _⟩ := T.D
  obtain ⟨hp, g, dr, tk, os⟩ := s
  have k : ∀ b o, hp.get? b = some o → ((hp.push (kdv_tup [v])).push (PySem.HandSPX.excO (He.ga K c) hp.objs.size)).get? b = some o := fun b o e => Heap.get?_push_of_some _ (Heap.get?_push_of_some _ e)
  have hget : ((hp.push (kdv_tup [v])).push (PySem.HandSPX.excO (He.ga K c) hp.objs.size)).get? (hp.objs.size + 1) = some (PySem.HandSPX.excO (He.ga K c) hp.objs.size) := by heap_get
  have hnx : K.lookup (hp.objs.size + 1) = none := by
    cases e : K.lookup (hp.objs.size + 1) with
    | none => rfl
    | some o => exact absurd (Nat.lt_of_succ_lt (Heap.lt_size (show hp.get? _ = some o from X _ _ e))) (Nat.lt_irrefl _)
  refine PySem.HandSPX.call_own F.excBase_ValueError (fun X => PySem.HandSPX.refsVE_contains X bm hbm) (X _ _ hC) (looks_findIn X e1) (fun self => bind_fn X self hty) (by show 1 ≤ sizeLine; rw [sizeLine_eq]; omega) ?_
  refine dg_init (s := ⟨(hp.push (kdv_tup [v])).push (PySem.HandSPX.excO (He.ga K c) hp.objs.size), g, dr, tk, os⟩) T (X.keeps k) (ns_keep k hG) (ns_keep k hB) hbb (hlim.keeps k) hget hnx ?_ e1 fun h' tk' dx t1 M => ?_
  · show A.depth + 1 < recursionLimit
    exact hroom
  · have z : hp.objs.size + 1 + 1 ≤ dx := by
      have q := M.dbig
      simpa only [Heap.size_push] using q
    exact ⟨rfl, hq h' tk' (hp.objs.size + 1) dx ⟨fun b o e => M.keep b o (Nat.ne_of_lt (Nat.lt_succ_of_lt (Heap.lt_size e))) (k b o e), Nat.le_succ _, ⟨_, _, M.obj, rfl, rfl, rfl, rfl⟩, Nat.le_trans (Nat.le_trans (Nat.le_succ _) (Nat.le_succ _)) z, M.dne, M.ns⟩⟩
end
section
variable {X : Cx} {W : WX} {ρ : Rs} {pos2 pos p : Pos} {τ : Type}
/-- C(e) -/
theorem pmk_dig {c : Str} {k : Nat} {a : Expr} {ta : TA} (T : DigT X.prog X.K X.mg c) (gr : GRoom (k + 1) X.A) (ha : PA X [a] ta) (hg : Gl X c) (hdb : (c == ("__debug__" : Str)) = false)
    (he : starEach (a :: []) X.env = (false, eval a X.env) :: starEach [] X.env := by rfl) (hpl : (backTo pos (starEach [] X.env)).any (·.1) = false := by rfl) :
    PMk X (.Call (.Name c p) [a] [] pos) (fun σ H Q => ta σ H fun vs H1 => ∃ v, vs = [v] ∧ ∀ d, H1 d = none → Q (.ref (He.ga X.K c)) (some d) (upd H1 d (.xd [(("at" : Str), v)]))) := by
  intro pins s σ H Q I h
  refine wpAny_Call_Name_kw (ld_glob I hg T.gC ?_ hdb)
  refine PySem.W.callWith_K (h₀ := X.base) I.ok.mod.kin T.kC (thn (ha.run pos pins s σ H _ I h) fun us s1 ⟨vs, H1, I1, r1, v, ev, q1⟩ => ⟨I1.kIn, ?_⟩) he hpl
  subst ev
  obtain ⟨u, rfl, rv⟩ := r1.one
  show wpAny _ _ (call (.ref (He.ga X.K c)) [u]) _ _ _
  obtain ⟨mb, hb1, hb2⟩ := I1.ok.mod.blt
  have hlim := I1.nolimit
  have X1 := I1.kIn
  have G1 := ns_keep I1.bk I1.ok.mod.glob
  have B1 := ns_keep I1.bk hb1
  obtain ⟨hp, g, dr, tk, os⟩ := s1
  refine wpAny_call (dg_made T X1 G1 B1 hb2 hlim (by have := gr.r.dp; omega) fun h' tk' e d M => ?_)
  show MkP X pins σ Q (.ref e) ⟨h', g, dr, tk', os⟩
  obtain ⟨oe, fv, hoe, hc, hd, hdat, hone⟩ := M.obj
  obtain ⟨G', g1, g2⟩ := restrict h' fun b => decide (b ≠ e)
  have gk : ∀ b, b ≠ e → G'.get? b = h'.get? b := fun b hb => g1 b (decide_eq_true hb)
  have ge : G'.get? e = none := g2 e (by simp)
  have old : ∀ b o, hp.get? b = some o → G'.get? b = some o := fun b o z => (gk b (Nat.ne_of_lt (Nat.lt_of_lt_of_le (Heap.lt_size z) M.new))).trans (M.keep b o z)
  have hr : ∀ f, RelO (List.lookup f [(("at" : Str), v)]) (if f = "at" then some u else none) := fun f => by
    by_cases hf : f = "at"
    · subst hf; simp only [if_true, List.lookup_cons, beq_self_eq_true]; exact rv
    · have : (f == ("at" : Str)) = false := by simpa using hf
      rw [if_neg hf, List.lookup_cons, this]; exact True.intro
  have ob : ObjOk X.prog X.w (upd H1 d (.xd [(("at" : Str), v)])) G' d (.xd [(("at" : Str), v)]) := ⟨_, M.ns.at (fun o z => (gk d M.dne).trans z), hr⟩
  have J : Inv X pins σ (upd H1 d (.xd [(("at" : Str), v)])) ⟨G', g, dr, tk', os⟩ := I1.laid (t' := tk') old M.dbig ob
  refine ⟨e, oe, fv, ⟨G', g, dr, tk', os⟩, _, .ref (He.ga X.K c), some d, rfl, J, fun b o z => ?_, ge, hoe, ⟨hc, hd⟩, hdat, hone, ?_, rfl, I1.bare, raises_own T.xf.exC T.tyC, q1 d (I1.hok.fresh M.dbig)⟩
  · by_cases hb : b = e
    · have z' : G'.get? b = some o := z
      rw [hb, ge] at z'; cases z'
    · exact (gk b hb).symm.trans z
  · rw [upd_ne (Ne.symm M.dne)]
    exact I1.hok.fresh M.new
/-- raise C(e) -/
theorem XB.raise {c : Str} {k : Nat} {e : Expr} {rest : List Stmt} {me : Res Int} {fin : τ → Fi} (T : DigT X.prog X.K X.mg c) (gr : GRoom (k + 1) X.A) (hc : X.calm = true) (tk : Takes X W) (he : XV X W ρ e me) (hg : Gl X c := by rfl) (hdb : (c == ("__debug__" : Str)) = false := by decide)
    (hs : starEach (e :: []) X.env = (false, eval e X.env) :: starEach [] X.env := by rfl) : XB X W ρ (.Raise (some (.Call (.Name c p) [e] [] pos)) none pos2 :: rest) (do
    let i ← me
    .exc c i) fin := by
  refine PSs.imp (pss_cons (ps_raise hc tk (pmk_dig T gr (pa_cons he pa_nil hs) hg hdb hs rfl)) (pss_never (sts := rest))) fun D σ H ⟨F0, H0, F, R, p⟩ => ⟨F0, H0, F, R, ?_⟩
  cases me with
  | exc c i => exact excG R.base p
  | stuck => exact p
  | ok i =>
    intro v F1 H1 g r
    obtain rfl := r.int_of
    refine ⟨.int i, rfl, fun d nd => ?_⟩
    have p' : ∀ dx F' H' σ', Grow F0 H0 F' H' → XdAt H' dx i → H0 dx = none → W (cv X.K c) (some dx) σ' H' := p
    exact p' d F1 _ σ (R.base.trans (g.trans (.own g.fh nd))) upd_same (sub_free (R.base.trans g).h nd)
end
end Vs
end
section
set_option Elab.async false
set_option linter.all false
set_option maxRecDepth 100000
set_option maxHeartbeats 2000000
/-! Vs14: try with clauses 'except C as e', each of which returns; e.at; a def picked from a list. -/
namespace Vs
open Enc (toD)
open PySem PySem.Spec PyProof.Rows L2
/-- what the clauses wish, one after the other: the class, the name's slot, the suite's reading -/
def wMA (K : PySem.W.Frag) (Wo : WX) (D : Ends) : List (Value × Nat × (Addr → Value → Option Addr → TS)) → WX
  | [] => Wo
  | (c, i, ts) :: r => fun cls d σ H => ∃ b, PySem.W.exmOne K cls c = some b ∧
    (b = true → ∀ a, H a = none → ts a cls d { nx := fun σ' H' => D.nx (σ'.set i none) H', rt := D.rt, bk := fun σ' H' => D.bk (σ'.set i none) H', ct := fun σ' H' => D.ct (σ'.set i none) H' } (σ.set i (some (.ref a))) H) ∧ (b = false → wMA K Wo D r cls d σ H)
inductive HdA (X : Cx) : List ExceptHandler → List (Value × Nat × (Addr → Value → Option Addr → TS)) → Prop
  | nil : HdA X [] []
  | cons {x n : Str} {c : Value} {i : Nat} {ts : Addr → Value → Option Addr → TS} {b0 : Stmt} {su : List Stmt} {np pe : Pos} {hds : List ExceptHandler} {l : List (Value × Nat × (Addr → Value → Option Addr → TS))} (hi : X.N[i]? = some n) (hl : X.env.kindOf n = some .local) (hc : Names X x c)
      (hsu : ∀ (a : Addr) (oe : Obj) (cls : Value) (d : Option Addr) (pn : List (Addr × Obj)), Zc cls d oe → (∃ vs, oe.data = .fields vs) → PSs (X.suite a ((a, oe) :: pn)) (b0 :: su) (ts a cls d)) (r : HdA X hds l) : HdA X (.ExceptHandler (some (.Name x np)) (some n) (b0 :: su) pe :: hds) ((c, i, ts) :: l)
section
variable {X : Cx} {body : List Stmt} {h0 : ExceptHandler} {hds : List ExceptHandler} {l : List (Value × Nat × (Addr → Value → Option Addr → TS))} {pos : Pos} {tb : WX → TS} {Wo : WX}
theorem ps_tryA (hs : X.stack = X.env :: X.outer) (hf : X.env.frame = some X.env.locals) (hN : X.N.Nodup) (tk : Takes X Wo)
    (hb : ∀ (W : WX) (pn : List (Addr × Obj)) (xe : Value → Shared → Prop), Takes (X.tr pn xe) W → PassesOwn (model X.prog X.w) X.A X.env xe → PSs (X.tr pn xe) body (tb W)) (hh : HdA X (h0 :: hds) l) :
    PS X (.Try body (h0 :: hds) [] [] pos) (fun D σ H => tb (wMA X.K Wo D l) D σ H) := by
  refine ⟨fun pins s σ H D I h => ?_⟩
  have ok := I.ok
  have fr : X.A.frames = some (X.env :: X.outer) := by rw [ok.frames, hs]
  refine wpAny_Try_except (wpAny_mono ((hb (wMA X.K Wo D l) (X.pn ++ pins) (fun e t1 => wpAny (model X.prog X.w) X.A (noteFrame e X.env) (fun _ t2 => wpAny (model X.prog X.w) X.A (setFlight e none) (fun _ t3 =>
    wpAny (model X.prog X.w) X.A (handleBy e X.env (h0 :: hds)) (SP X pins D) X.xe t3) X.xe t2) X.xe t1) (fun u s' xx => ?_) PassesOwn.looking).run [] s σ H D (I.toTry _) h) (fun f t1 hsp => ?_) (fun e t1 he => he))
  · obtain ⟨a, B, sI, qs, σ1, H1, cls, d, rfl, Ji, nb, up, sky, na, os, ag, w⟩ := xx
    have J : Inv X pins σ1 H1 sI := Ji.ofTry ok
    have sky2 : Sky B (X.env :: X.outer) a (Zc cls d) X.env.locals s'.heap := by rw [← hs]; exact sky
    show wpAny (model X.prog X.w) X.A (noteFrame (.ref a) X.env) _ _ _
    refine Sky.land Zc.steady fr hf sky2 fun g3 fl3 up3 => ?_
    have J3 : Inv X pins σ1 H1 { s' with heap := g3 } := J.landed nb fl3.1 (up.trans up3) os ag
    obtain ⟨o3, v3, e3, z3, d3⟩ := fl3.there
    have nfr : a ∉ frs (X.env :: X.outer) := fun hm => by
      obtain ⟨_, o', e', hnf⟩ := fl3.2.2.1.mem hm
      rw [e3] at e'; cases e'
      exact hnf _ d3
    have nL : a ≠ X.env.locals := fun z => nfr (List.mem_filterMap.mpr ⟨X.env, List.mem_cons_self, by rw [hf, z]⟩)
    have nF : a ∉ X.fs := fun hm => by
      obtain ⟨e, he, q⟩ := List.mem_filterMap.mp hm
      exact nfr (List.mem_filterMap.mpr ⟨e, List.mem_cons_of_mem _ he, q⟩)
    have S3 := J3.suite e3 d3 na nL nF
    have go : ∀ {hs' : List ExceptHandler} {l' : List (Value × Nat × (Addr → Value → Option Addr → TS))}, HdA X hs' l' → wMA X.K Wo D l' cls d σ1 H1 → wpAny (model X.prog X.w) X.A (handleBy (.ref a) X.env hs') (SP X pins D) X.xe { s' with heap := g3 } := by
      intro hs' l' hk
      induction hk with
      | nil =>
        intro w
        refine wpAny_handleBy_nil ?_
        obtain ⟨_, _, _, oe, vs, T, _, _, he, _, hd, h1, _⟩ := id fl3
        unfold PySem.passOn
        refine wpAny_bind (wpAny_field he hd h1 ?_)
        rw [if_neg (show ¬ ((Value.ref T == Value.none) = true) from by simp)]
        have fin : wpAny (model X.prog X.w) X.A (setFlight (.ref a) X.env.frame) (fun _ s4 => wpAny (model X.prog X.w) X.A (throw (.ref a) : Sem Flow) (SP X pins D) X.xe s4) X.xe { s' with heap := g3 } := by
          rw [hf]
          exact HandSPX.setFlight_upZ fl3 fun h4 hh4 up4 => wpAny_throw (tk _ _ ⟨a, B, sI, pins, σ1, H1, cls, d, rfl, J, nb, (up.trans up3).trans up4, .inr (.inr (by rw [hs]; exact hh4)), na, os, ag, w⟩)
        first
          | exact wpAny_bind (wpAny_pure (wpAny_bind fin))
          | exact wpAny_bind fin
      | @cons x n c i ts b0 su np pe hds2 l2 hi hl hc hsu r ih =>
        intro w
        obtain ⟨b, hb1, hyes, hno⟩ := w
        refine wpAny_handleBy_cons (codeAny_handlers_test ?_) (by intro q; cases q)
        have LT : PySem.W.Looks (model X.prog X.w) g3 (typeOf (.ref a)) cls := fun A Q E s k q => wpAny_typeOf_ref (k _ _ e3) (by rw [z3.1]; exact q)
        have LM := PySem.W.exm_one (M := model X.prog X.w) J3.kIn LT hb1
        have test : ∀ {Q : Value → Shared → Prop} {E : Value → Shared → Prop}, Q c { s' with heap := g3 } → wpAny (model X.prog X.w) (X.A.mark (some (.ref a))) (eval (.Name x np) X.env) Q E { s' with heap := g3 } := fun {Q E} q => by
          obtain ⟨hg, hdb, hm | ⟨hm, hv, hnn⟩⟩ := hc
          · exact ld_glob (X := X.suite a ((a, o3) :: (X.pn ++ pins))) S3 hg hm q hdb
          · exact ld_blt (X := X.suite a ((a, o3) :: (X.pn ++ pins))) S3 hg hm hv q hnn hdb
        refine test (LM.here ?_)
        cases b with
        | false =>
          show wpAny _ X.A (handleBy (.ref a) X.env hds2) _ _ _
          exact ih (hno rfl)
        | true =>
          refine codeAny_handlers_suite_as (HandSPX.lands_againZ fl3 fun g4 fl4 up4 => ?_)
          have J4 : Inv X pins σ1 H1 { s' with heap := g4 } := J.landed nb fl4.1 ((up.trans up3).trans up4) os ag
          obtain ⟨o4, v4, e4, z4, d4⟩ := fl4.there
          have S4 := J4.suite e4 d4 na nL nF
          refine store_ok (X := X.suite a ((a, o4) :: (X.pn ++ pins))) (v := .ref a) S4 hN hi (.inl hl) rfl (fun s5 S5 => ?_) (.inr hl)
          refine wpAny_mono ((hsu a o4 cls d (X.pn ++ pins) z4 ⟨_, d4⟩).run [] s5 _ H1 _ S5 (hyes rfl a na)) (fun f s6 hsp => ?_) (fun _ _ z => False.elim z)
          have fin : ∀ {σ6 : St} {H6 : Hp} {Q : Shared → Prop}, Inv (X.suite a ((a, o4) :: (X.pn ++ pins))) [] σ6 H6 s6 → (∀ s7, Inv X pins (σ6.set i none) H6 s7 → Q s7) →
              wpAny (model X.prog X.w) X.A (do bindName X.env n .none; unbindBehindTheSuite X.env n pe) (fun _ s7 => Q s7) X.xe s6 := fun {σ6 H6 Q} S6 hq => gone_ok (S6.unsuite ok) hN hi hl hq
          match f, hsp with
          | .next, ⟨_, _, S6, q6⟩ => exact fin S6 fun s7 J7 => ⟨_, _, J7, q6⟩
          | .brk, ⟨_, _, S6, q6⟩ => exact fin S6 fun s7 J7 => ⟨_, _, J7, q6⟩
          | .cont, ⟨_, _, S6, q6⟩ => exact fin S6 fun s7 J7 => ⟨_, _, J7, q6⟩
          | .ret u, ⟨_, _, _, S6, r6, q6⟩ => exact fin S6 fun s7 J7 => ⟨_, _, _, J7, r6, q6⟩
    exact go hh w
  · match f, hsp with
    | .next, ⟨σ', H', Jt, q⟩ => exact wpAny_execs_nil ⟨σ', H', Jt.ofTry ok, q⟩
    | .brk, ⟨σ', H', Jt, q⟩ => exact ⟨σ', H', Jt.ofTry ok, q⟩
    | .cont, ⟨σ', H', Jt, q⟩ => exact ⟨σ', H', Jt.ofTry ok, q⟩
    | .ret u, ⟨v, σ', H', Jt, r, q⟩ => exact ⟨v, σ', H', Jt.ofTry ok, r, q⟩
end
/-! ### the mirror -/
section
variable {τ S : Type}
def catchC : List (Str × (Int → Res τ)) → Str → Int → Res τ
  | [], c, i => .exc c i
  | (cl, m) :: r, c, i => if c = cl then noX (m i) else catchC r c i
def tryR (known : List Str) (mB : Res S) (k : S → Res τ) (cs : List (Str × (Int → Res τ))) : Res τ := match mB with
  | .ok s => k s
  | .exc c i => if c ∈ known then catchC cs c i else .stuck
  | .stuck => .stuck
end
/-- which class is caught by which -/
def Exm (K : PySem.W.Frag) (known : List Str) : Prop := ∀ a ∈ known, ∀ b ∈ known, PySem.W.exmOne K (cv K a) (cv K b) = some (decide (a = b))
section
variable {X : Cx} {W : WX} {ρ : Rs} {pos : Pos} {S τ : Type}
inductive HdC (X : Cx) (known : List Str) (fin : τ → Fi) : List ExceptHandler → List (Str × (Int → Res τ)) → Prop
  | nil : HdC X known fin [] []
  | cons {cl n : Str} {i : Nat} {m : Int → Res τ} {b0 : Stmt} {su : List Stmt} {np pe : Pos} {hds : List ExceptHandler} {cs : List (Str × (Int → Res τ))} (hcl : cl ∈ known) (hi : X.N[i]? = some n) (hl : X.env.kindOf n = some .local) (hg : Gl X cl) (hdb : (cl == ("__debug__" : Str)) = false)
      (hsu : ∀ (a dx : Nat) (k : Int) (c : Str) (oe : Obj) (pn : List (Addr × Obj)), DigT X.prog X.K X.mg c → Zc (cv X.K c) (some dx) oe → (∃ vs, oe.data = .fields vs) → XB (X.suite a ((a, oe) :: pn)) (fun _ _ _ _ => False) [(i, SV.sh (toD (ERef.mk a dx k)))] (b0 :: su) (m k) fin)
      (r : HdC X known fin hds cs) : HdC X known fin (.ExceptHandler (some (.Name cl np)) (some n) (b0 :: su) pe :: hds) ((cl, m) :: cs)
/-- the reading of a clause's suite -/
def tsC (K : PySem.W.Frag) (n i : Nat) (known : List Str) (m : Int → Res τ) (fin : τ → Fi) : Addr → Value → Option Addr → TS := fun a cls d D σ H => ∃ (dx : Nat) (k : Int) (c : Str) (σ1 : St) (F0 H0 F : Hp), d = some dx ∧ cls = cv K c ∧ c ∈ known ∧ σ = σ1.set i (some (.ref a)) ∧
  Grow F0 H0 F H ∧ F dx = some (.xd [(("at" : Str), .int k)]) ∧ PostS K n (fun _ _ _ _ => False) F0 H0 F (m k) fin D
def lC (K : PySem.W.Frag) (n : Nat) (known : List Str) (fin : τ → Fi) : List ((Str × (Int → Res τ)) × Nat) → List (Value × Nat × (Addr → Value → Option Addr → TS)) := fun l => l.map fun z => (cv K z.1.1, z.2, tsC K n z.2 known z.1.2 fin)
theorem hdC_A {known : List Str} {fin : τ → Fi} (hT : ∀ c ∈ known, DigT X.prog X.K X.mg c) {hds : List ExceptHandler} {cs : List (Str × (Int → Res τ))} (h : HdC X known fin hds cs) :
    ∃ l, l.map (·.1) = cs ∧ HdA X hds (lC X.K X.N.length known fin l) ∧ ∀ z ∈ l, z.1.1 ∈ known := by
  induction h with
  | nil => exact ⟨[], rfl, .nil, fun z hz => nomatch hz⟩
  | @cons cl n i m b0 su np pe hds cs hcl hi hl hg hdb hsu r ih =>
    obtain ⟨l, e, ha, hk⟩ := ih
    refine ⟨((cl, m), i) :: l, by rw [List.map_cons, e], .cons hi hl ⟨hg, hdb, .inl (hT cl hcl).gC⟩ (fun a oe cls d pn hz hf => ⟨fun pins s σ H D I ⟨dx, k, c, σ1, F0, H0, F, e1, e2, hc, e3, g, fx, p⟩ => ?_⟩) ha, fun z hz => ?_⟩
    · subst e1 e2
      refine (hsu a dx k c oe pn (hT c hc) hz hf).run pins s σ H D I ⟨F0, H0, F, ⟨I.len, g, fun j d' hm => ?_, fun j d' hm => ?_, fun j1 j2 d1 d2 b m1 m2 _ _ => ?_⟩, p⟩
      · rw [List.mem_singleton] at hm
        cases hm
        have hlen : σ.length = X.N.length := I.len
        refine ⟨.ref a, ?_, .ex fx⟩
        rw [e3]
        refine List.getElem?_set_self ?_
        have q := (List.getElem?_eq_some_iff.mp hi).1
        rw [e3, List.length_set] at hlen
        omega
      · rw [List.mem_singleton] at hm; cases hm
      · rw [List.mem_singleton] at m1; cases m1
    · rcases List.mem_cons.mp hz with e | hz
      · rw [e]; exact hcl
      · exact hk z hz
/-- try: body (it goes on) / except C as e: .. (each returns) -/
theorem XB.tryC (known : List Str) {body rest : List Stmt} {h0 : ExceptHandler} {hds : List ExceptHandler} {mB : Res S} {mr : S → Res τ} {cs : List (Str × (Int → Res τ))} {fin : τ → Fi} (ρj : S → Rs) (ex : Exm X.K known) (hT : ∀ c ∈ known, DigT X.prog X.K X.mg c) (hN : X.N.Nodup) (tk : Takes X W)
    (hb : ∀ (W2 : WX) (pn : List (Addr × Obj)) (xe : Value → Shared → Prop), Takes (X.tr pn xe) W2 → PassesOwn (model X.prog X.w) X.A X.env xe → XB (X.tr pn xe) W2 ρ body mB fun s => .nx (ρj s)) (hh : HdC X known fin (h0 :: hds) cs) (hr : ∀ s, XB X W (ρj s) rest (mr s) fin) (hfin : ∀ t, ∃ d, fin t = .rt d)
    (hs : X.stack = X.env :: X.outer := by rfl) (hf : X.env.frame = some X.env.locals := by rfl) : XB X W ρ (.Try body (h0 :: hds) [] [] pos :: rest) (tryR known mB mr cs) fin := by
  obtain ⟨l, el, ha, hk⟩ := hdC_A hT hh
  refine PSs.imp (pss_cons (ps_tryA hs hf hN tk (tb := fun W2 => rdS X.K X.N.length W2 ρ mB fun s => .nx (ρj s)) hb ha) (PSs.ex hr)) fun D σ H ⟨F0, H0, F, R, p⟩ => ⟨F0, H0, F, R, ?_⟩
  cases mB with
  | stuck => exact p
  | ok s => exact fun σ' F' H' R' sf => ⟨s, F0, H0, F', R', PostS.sub sf p⟩
  | exc c i =>
    have p1 : PostS X.K X.N.length W F0 H0 F (if c ∈ known then catchC cs c i else .stuck) fin D := p
    by_cases hc : c ∈ known
    · rw [if_pos hc] at p1
      intro dx F' H' σ' g hx hn
      subst el
      -- the clauses, one after the other
      have key : ∀ l : List ((Str × (Int → Res τ)) × Nat), (∀ z ∈ l, z.1.1 ∈ known) → PostS X.K X.N.length W F0 H0 F (catchC (l.map (·.1)) c i) fin D →
          wMA X.K W { D with nx := fun σ H => ∃ s, rdS X.K X.N.length W (ρj s) (mr s) fin D σ H } (lC X.K X.N.length known fin l) (cv X.K c) (some dx) σ' H' := ?_
      exact key l hk p1
      intro l
      induction l with
      | nil =>
        intro hk p1
        have p2 : PostS X.K X.N.length W F0 H0 F (.exc c i : Res τ) fin D := p1
        exact p2 dx F' H' σ' g hx hn
      | cons z l ih =>
        intro hk p1
        obtain ⟨⟨cl, m⟩, j⟩ := z
        refine ⟨decide (c = cl), ex c hc cl (hk _ List.mem_cons_self), fun hb a na => ?_, fun hb => ?_⟩
        · have e := of_decide_eq_true hb
          have p2 : PostS X.K X.N.length W F0 H0 F (if c = cl then noX (m i) else catchC (l.map (·.1)) c i) fin D := p1
          rw [if_pos e] at p2
          have nf : ∀ o, F' dx = some o → o = .xd [(("at" : Str), .int i)] := fun o q => by
            have q2 := g.fh _ _ q
            rw [hx] at q2; cases q2; rfl
          have sf : Sub F' (upd F' dx (.xd [(("at" : Str), .int i)])) := fun b o q => by
            by_cases hb : b = dx
            · subst hb; rw [upd_same, nf o q]
            · rw [upd_ne hb]; exact q
          refine ⟨dx, i, c, σ', F0, H0, upd F' dx (.xd [(("at" : Str), .int i)]), rfl, rfl, hc, rfl, ⟨fun b o q => sf b o (g.f b o q), g.h, fun b o q => ?_, fun b hb => ?_⟩, upd_same, ?_⟩
          · by_cases hb : b = dx
            · subst hb; rw [upd_same] at q; cases q; exact hx
            · rw [upd_ne hb] at q; exact g.fh b o q
          · rw [upd_ne (fun q => hb.1 (by rw [q]; exact hn))]; exact g.fn b hb
          · cases em : m i with
            | exc c2 i2 => rw [em] at p2; exact p2.elim
            | stuck => rw [em] at p2; exact p2.elim
            | ok t =>
              rw [em] at p2
              obtain ⟨d, ed⟩ := hfin t
              have p3 : (match fin t with
                | .nx ρ' => ∀ σ' F' H', Rho X.K X.N.length F0 H0 F' H' σ' ρ' → Sub F F' → D.nx σ' H'
                | .rt d => ∀ v F' H', Grow F0 H0 F' H' → Rp X.K F' v d → D.rt v H'
                | .bk ρ' => ∀ σ' F' H', Rho X.K X.N.length F0 H0 F' H' σ' ρ' → Sub F F' → D.bk σ' H') := p2
              rw [ed] at p3
              show PostS X.K X.N.length (fun _ _ _ _ => False) F0 H0 _ (m i) fin _
              rw [em]
              show (match fin t with
                | .nx ρ' => _
                | .rt d => _
                | .bk ρ' => _)
              rw [ed]
              exact p3
        · have e := of_decide_eq_false hb
          have p2 : PostS X.K X.N.length W F0 H0 F (if c = cl then noX (m i) else catchC (l.map (·.1)) c i) fin D := p1
          rw [if_neg e] at p2
          exact ih (fun z hz => hk z (List.mem_cons_of_mem _ hz)) p2
    · rw [if_neg hc] at p1
      exact p1.elim
/-- e.at in a clause -/
theorem XV.excAt {a dx : Nat} {k : Int} {c nm : Str} {oe : Obj} {pn : List (Addr × Obj)} {i : Nat} {p : Pos} (T : DigT X.prog X.K X.mg c) (hz : Zc (cv X.K c) (some dx) oe) (hf : ∃ vs, oe.data = .fields vs) (j : Nat) (h : ρ[j]? = some (i, SV.sh (toD (ERef.mk a dx k)))) (hN : X.N[i]? = some nm := by rfl)
    (hv : Vis X.env.scope nm := by first | exact Or.inl rfl | exact Or.inr (Or.inl rfl) | exact Or.inr (Or.inr rfl)) (hd : (nm == ("__debug__" : Str)) = false := by decide) (hcd : (nm == ("__classdict__" : Str)) = false := by decide) :
    XV (X.suite a ((a, oe) :: pn)) W ρ (.Attribute (.Name nm p) "at" pos) (.ok k) := by
  refine PE.imp (pe_xf T.xf T.noN hz hf (pe_var (X := X.suite a ((a, oe) :: pn)) hN hv hd hcd)) fun σ H Q ⟨F0, H0, F, R, p⟩ => ?_
  obtain ⟨v, e1, r⟩ := R.sh i _ (List.mem_of_getElem? h)
  have r' : Rp X.K F v (.dict [(.int (a : Nat), .int (dx : Nat)), (.none, .int k)]) := r
  generalize ea : (a : Int) = za at r'
  generalize ed : (dx : Int) = zd at r'
  cases r' with
  | @ex a2 d2 k2 fx =>
    have h1 : a = a2 := Int.ofNat_inj.mp ea
    have h2 : dx = d2 := Int.ofNat_inj.mp ed
    subst h1 h2
    exact ⟨_, e1, rfl, rfl, dx, _, .int k, rfl, R.fh _ _ fx, by simp [List.lookup], p _ F H (.refl R.fh) (.int k)⟩
theorem takes0 {X : Cx} : Takes X W0 := takes_none5
end
end Vs
end
section
set_option Elab.async false
set_option linter.all false
set_option maxRecDepth 100000
set_option maxHeartbeats 2000000
/-! Vs15: [f, g][i](..): a def picked from a list and called. -/
namespace Vs
open Enc (toD)
open PySem PySem.Spec PyProof.Rows L2
def pickF {F : Type} (fs : List F) (i : Int) : Res F := getL fs i
section
variable {X : Cx} {W : WX} {ρ : Rs} {pos : Pos} {α β γ S τ Ω : Type} [Enc α] [Enc β] [Enc γ]
theorem rp_fn {K : PySem.W.Frag} {F : Hp} {v : V} {f : FnRef} (r : Rp K F v (toD f)) : v = .ref f.a := by
  have r' : Rp K F v (.dict [(.str Str.empty, .int (f.a : Nat))]) := r
  generalize ea : (f.a : Int) = za at r'
  cases r' with
  | @fn a2 =>
    have h1 : f.a = a2 := Int.ofNat_inj.mp ea
    rw [h1]
theorem XV.globF {x : Str} {fa : Addr} (hm : X.mg x = some (.ref fa)) (hg : Gl X x) (hd : (x == ("__debug__" : Str)) = false) : XV X W ρ (.Name x pos) (.ok (FnRef.mk fa)) := XV.glob (v := .ref fa) hg hm rfl (fun F => .fn) hd
/-- a def: its name, where it stands, what it promises (R) -/
structure FEnt (X : Cx) (k : Nat) (R : List PyData → Res PyData → Prop) : Type where
  x : Str
  fa : Addr
  fd : FuncData
  ps : List Str
  C : FnC X.K X.mg x fa fd ps
  G : FnV X.prog X.w X.K X.mg X.base k fa fd ps R
/-- the names of a list's display -/
inductive NmL (X : Cx) : List Expr → List (Str × Addr) → Prop
  | nil : NmL X [] []
  | cons {x : Str} {fa : Addr} {p : Pos} {es : List Expr} {l : List (Str × Addr)} (hm : X.mg x = some (.ref fa)) (hg : Gl X x) (hd : (x == ("__debug__" : Str)) = false) (hs : starEach (.Name x p :: es) X.env = (false, eval (.Name x p) X.env) :: starEach es X.env) (r : NmL X es l) : NmL X (.Name x p :: es) ((x, fa) :: l)
theorem NmL.xl {es : List Expr} {l : List (Str × Addr)} (h : NmL X es l) : XL X W ρ es (.ok (l.map fun z => FnRef.mk z.2)) := by
  induction h with
  | nil => exact XL.nil
  | cons hm hg hd hs r ih => exact XL.cons (XV.globF hm hg hd) ih hs
theorem dyn_map (m : Res α) : (m >>= fun z => Res.ok (dynR z)).map toD = m.map toD := by cases m <;> rfl
theorem getL_noF {A : Type} {xs : List A} {i : Int} {c : Str} {k : Int} : getL xs i ≠ .exc c k := by
  unfold getL
  intro h
  split at h <;> cases h
theorem getL_map {A B : Type} (f : A → B) {l : List A} {i : Int} {b : B} (h : getL (l.map f) i = .ok b) : ∃ a, getL l i = .ok a ∧ f a = b := by
  unfold getL at h ⊢
  rw [List.length_map] at h
  cases e : idx l.length i with
  | none => rw [e] at h; cases h
  | some j =>
    rw [e] at h
    simp only [Option.bind_some, List.getElem?_map] at h ⊢
    cases e2 : l[j]? with
    | none => rw [e2] at h; cases h
    | some a => rw [e2] at h; cases h; exact ⟨a, rfl, rfl⟩
theorem getL_zip {A B : Type} {l : List A} {m : List B} (hl : l.length = m.length) {i : Int} {a : A} (h : getL l i = .ok a) : ∃ (b : B) (j : Nat), getL m i = .ok b ∧ l[j]? = some a ∧ m[j]? = some b := by
  unfold getL at h ⊢
  rw [hl] at h
  cases e : idx m.length i with
  | none => rw [e] at h; cases h
  | some j =>
    rw [e] at h
    simp only [Option.bind_some] at h ⊢
    cases e2 : l[j]? with
    | none => rw [e2] at h; cases h
    | some a' =>
      rw [e2] at h; cases h
      have hj := (List.getElem?_eq_some_iff.mp e2).1
      exact ⟨m[j]'(by omega), j, by rw [List.getElem?_eq_getElem (by omega)], e2, List.getElem?_eq_getElem (by omega)⟩
/-- [f, g][i](e, ..): whatever def it is, the argument i tells what it gives -/
theorem XV.fnlI {ι : Type} {k : Nat} {es as : List Expr} {a : Expr} {ix : Expr} {l : List (Str × Addr)} {p1 p2 : Pos} {args : ι → List PyData} {fs : List (ι → Res β)} {mi : Res Int} {mm : Res ι} (hn : NmL X es l) (hlen : l.length = fs.length) (hz : l.length ≤ 1000)
    (hG : ∀ (j : Nat) (z : Str × Addr) (f : ι → Res β), l[j]? = some z → fs[j]? = some f → ∃ fd ps, FnC X.K X.mg z.1 z.2 fd ps ∧ FnV X.prog X.w X.K X.mg X.base k z.2 fd ps (fun ds r => ∃ i, ds = args i ∧ r = (f i).map toD))
    (gr : GRoom k X.A) (tk : Takes X W) (hi : XV X W ρ ix mi) (ha : XA X W ρ (a :: as) (mm.map args)) (he : starEach (a :: as) X.env = (false, eval a X.env) :: starEach as X.env := by rfl) (hpl : (backTo pos (starEach as X.env)).any (·.1) = false := by rfl) (hs : PlainIx ix := by exact fun _ _ => rfl) :
    XV X W ρ (.Call (.Subscript (.List es p1) ix p2) (a :: as) [] pos) (mi >>= fun i => pickF fs i >>= fun f => mm >>= f) := by
  have hf : XV X W ρ (.Subscript (.List es p1) ix p2) (mi >>= fun i => getL (l.map fun z => FnRef.mk z.2) i) := XV.idx (XF.w (XF.lst hn.xl fun xs e => by cases e; rw [List.length_map]; exact hz)) hi hs
  refine ⟨fun pins s σ H Q I ⟨F0, H0, F, R, p⟩ => ?_⟩
  rw [show eval (.Call (.Subscript (.List es p1) ix p2) (a :: as) [] pos) X.env = (do callWith pos (← eval (.Subscript (.List es p1) ix p2) X.env) [] (backTo pos (starEach (a :: as) X.env)) (backToKw pos (keywordEach [] X.env))) from rfl]
  -- what is wanted behind the def's value
  refine wpAny_bind (thn (hf.run pins s σ H (fun v H1 => ∃ (j : Nat) (z : Str × Addr) (f : ι → Res β) (F1 : Hp), l[j]? = some z ∧ fs[j]? = some f ∧ v = .ref z.2 ∧ Grow F H F1 H1 ∧ PostV X.K W F1 H1 ((mm >>= f).map toD) Q) I ⟨F0, H0, F, R, ?_⟩) fun u s1 ⟨v, H1, I1, rv, j, z, f, F1, e1, e2, ev, g, p2⟩ => ?_)
  · cases mi with
    | exc c i => exact p
    | stuck => exact p
    | ok i =>
      have p1 : PostV X.K W F H ((pickF fs i >>= fun f => mm >>= f).map toD) Q := p
      show PostV X.K W F H ((getL (l.map fun z => FnRef.mk z.2) i).map toD) _
      cases eg : getL (l.map fun z => FnRef.mk z.2) i with
      | exc c i => exact absurd eg getL_noF
      | stuck =>
        cases ep : pickF fs i with
        | stuck => rw [ep] at p1; exact p1
        | exc c i => exact absurd ep getL_noF
        | ok f =>
          obtain ⟨z, _, q, _⟩ := getL_zip (m := l.map fun z => FnRef.mk z.2) (by rw [List.length_map]; exact hlen.symm) ep
          rw [eg] at q; cases q
      | ok r =>
        intro v F1 H1 g rr
        obtain ⟨f, j, q1, q2, q3⟩ := getL_zip (l := l.map fun z => FnRef.mk z.2) (m := fs) (by rw [List.length_map]; exact hlen) eg
        rw [List.getElem?_map] at q2
        cases ez : l[j]? with
        | none => rw [ez] at q2; cases q2
        | some z =>
          rw [ez] at q2
          refine ⟨j, z, f, F1, ez, q3, ?_, g, ?_⟩
          · rw [rp_fn rr]
            cases q2; rfl
          · refine PostV.grow g ?_
            have : (pickF fs i >>= fun f => mm >>= f) = (mm >>= f) := by
              unfold pickF
              rw [q1]; rfl
            rw [this] at p1; exact p1
  · subst ev
    obtain rfl : u = Value.ref z.2 := rv
    obtain ⟨fd, ps, C, G⟩ := hG j z f e1 e2
    refine PySem.W.callWith_K (h₀ := X.base) I1.ok.mod.kin C.kp (thn (ha.run pos pins s1 σ H1 (fun vs H2 => spR X.K (fun ds r => ∃ i, ds = args i ∧ r = (f i).map toD) vs H2 Q fun c d H => ∀ σ, W c d σ H) I1 ⟨F0, H0, F1, R.grow g, ?_⟩) fun us s2 ⟨vs, H2, I2, r2, q⟩ => ⟨I2.kIn, run_fnG G gr C.bn (passes_call tk fun c d σ H h => h σ) I2 r2 q⟩) he hpl
    cases mm with
    | exc c i => exact p2
    | stuck => exact p2
    | ok i =>
      intro vs F2 H2 g2 r2
      have p3 : PostV X.K W F2 H2 ((f i).map toD) Q := PostV.grow g2 p2
      refine ⟨F2, args i, (f i).map toD, ⟨i, rfl, rfl⟩, g2.fh, r2, ?_⟩
      cases er : (f i).map toD with
      | ok d => rw [er] at p3; exact p3
      | exc c i => rw [er] at p3; exact fun dx F' H' σ' g x n σ => p3 dx F' H' σ g x n
      | stuck => rw [er] at p3; exact p3
end

section
variable {X : Cx} {W : WX} {ρ : Rs} {pos : Pos} {α1 : Type} [Enc α1] {β : Type} [Enc β]
/-- what is known of each def of the list -/
inductive GL1 (X : Cx) (k : Nat) : List (Str × Addr) → List (α1 → Res β) → Prop
  | nil : GL1 X k [] []
  | cons {x : Str} {fa : Addr} {fd : FuncData} {ps : List Str} {f : α1 → Res β} {l : List (Str × Addr)} {fs : List (α1 → Res β)} (C : FnC X.K X.mg x fa fd ps) (G : FnV X.prog X.w X.K X.mg X.base k fa fd ps (Rn1 f)) (r : GL1 X k l fs) : GL1 X k ((x, fa) :: l) (f :: fs)
theorem XV.fnl1 {k : Nat} {e1 ix : Expr} {es : List Expr} {l : List (Str × Addr)} {p1 p2 : Pos} {fs : List (α1 → Res β)} {mi : Res Int} {m1 : Res α1} (hn : NmL X es l) (hG : GL1 X k l fs) (gr : GRoom k X.A) (tk : Takes X W) (hi : XV X W ρ ix mi) (h1 : XV X W ρ e1 m1) (hz : l.length ≤ 1000 := by exact Nat.le_of_ble_eq_true rfl)
    (s1 : starEach [e1] X.env = (false, eval e1 X.env) :: starEach [] X.env := by rfl) (hpl : (backTo pos (starEach [] X.env)).any (·.1) = false := by rfl) (hs : PlainIx ix := by exact fun _ _ => rfl) :
    XV X W ρ (.Call (.Subscript (.List es p1) ix p2) [e1] [] pos) (do
    let i ← mi
    let g ← pickF fs i
    let x1 ← m1
    g x1) := by
  have hl : ∀ {l : List (Str × Addr)} {fs : List (α1 → Res β)}, GL1 X k l fs → l.length = fs.length := fun h => by
    induction h with
    | nil => rfl
    | cons _ _ _ ih => exact congrArg Nat.succ ih
  have at_ : ∀ {l : List (Str × Addr)} {fs : List (α1 → Res β)}, GL1 X k l fs → ∀ (j : Nat) (z : Str × Addr) (f : α1 → Res β), l[j]? = some z → (fs.map fun f (i : α1) => f i)[j]? = some (fun i => f i) → ∃ fd ps, FnC X.K X.mg z.1 z.2 fd ps ∧ FnV X.prog X.w X.K X.mg X.base k z.2 fd ps (fun ds r => ∃ i : α1, ds = [toD i] ∧ r = (f i).map toD) := fun h => by
    induction h with
    | nil => intro j z f h; simp at h
    | @cons x fa fd ps f0 l fs C G r ih =>
      intro j z f h1 h2
      cases j with
      | zero =>
        simp only [List.getElem?_cons_zero, Option.some.injEq] at h1
        subst h1
        simp only [List.map_cons, List.getElem?_cons_zero, Option.some.injEq] at h2
        have e : f0 = f := by
          funext x1
          exact congrFun h2 x1
        subst e
        exact ⟨fd, ps, C, ⟨fun vs H Q E ⟨F, ds, r, ⟨i, e1, e2⟩, q⟩ => G.len vs H Q E ⟨F, ds, r, ⟨i, e1, e2⟩, q⟩, fun A outer s H args us vs Q E hr e0 hb rv ⟨F, ds, r, ⟨i, e1, e2⟩, q⟩ => G.run A outer s H args us vs Q E hr e0 hb rv ⟨F, ds, r, ⟨i, e1, e2⟩, q⟩⟩⟩
      | succ j =>
        simp only [List.getElem?_cons_succ] at h1
        simp only [List.map_cons, List.getElem?_cons_succ] at h2
        exact ih j z f h1 h2
  refine (XV.fnlI (args := fun i : α1 => [toD i]) (fs := fs.map fun f (i : α1) => f i) (mm := (do
    let x1 ← m1
    Res.ok x1)) hn (by rw [List.length_map]; exact hl hG) hz (fun j z f e1 e2 => ?_) gr tk hi (XA.eq (XA.cons h1 XA.nil s1) ?_) s1 hpl hs).eq ?_
  · rw [List.getElem?_map] at e2
    cases e3 : fs[j]? with
    | none => rw [e3] at e2; cases e2
    | some g =>
      have e4 : (fun i : α1 => g i) = f := by rw [e3] at e2; exact Option.some.inj e2
      obtain ⟨fd, ps, C, G⟩ := at_ hG j z g e1 (by rw [List.getElem?_map, e3]; rfl)
      exact ⟨fd, ps, C, by rw [← e4]; exact G⟩
  · cases m1 with
    | exc c i => rfl
    | stuck => rfl
    | ok y1 =>
      rfl
  · cases mi with
    | exc c i => rfl
    | stuck => rfl
    | ok i =>
      show (pickF fs i >>= _) = (pickF (fs.map _) i >>= _)
      unfold pickF getL
      rw [List.length_map]
      cases Vs.idx fs.length i with
      | none => rfl
      | some j =>
        simp only [Option.bind_some, List.getElem?_map]
        cases fs[j]? with
        | none => rfl
        | some g =>
          show ((do
            let x1 ← m1
            g x1) : Res β) = ((do
            let x1 ← m1
            Res.ok x1) >>= fun i => g i)
          cases m1 with
          | exc c i => rfl
          | stuck => rfl
          | ok y1 =>
            rfl
end
theorem FnV.dyn1 {P : Program} {w : World} {K : PySem.W.Frag} {mg : Str → Option Value} {base : Heap} {k : Nat} {fa : Addr} {fd : FuncData} {ps : List Str} {α1 : Type} [Enc α1] {β : Type} [Enc β] {f : α1 → Res β} (G : FnV P w K mg base k fa fd ps (Rn1 f)) : FnV P w K mg base k fa fd ps (Rn1 fun x1 => f x1 >>= fun z => .ok (dynR z)) :=
  ⟨fun vs H Q E ⟨F, ds, r, ⟨x1, e1, e2⟩, q⟩ => G.len vs H Q E ⟨F, ds, r, ⟨x1, e1, (e2.trans (dyn_map _))⟩, q⟩, fun A outer s H args us vs Q E hr e0 hb rv ⟨F, ds, r, ⟨x1, e1, e2⟩, q⟩ => G.run A outer s H args us vs Q E hr e0 hb rv ⟨F, ds, r, ⟨x1, e1, (e2.trans (dyn_map _))⟩, q⟩⟩
section
variable {X : Cx} {W : WX} {ρ : Rs} {pos : Pos} {α1 : Type} [Enc α1] {α2 : Type} [Enc α2] {β : Type} [Enc β]
/-- what is known of each def of the list -/
inductive GL2 (X : Cx) (k : Nat) : List (Str × Addr) → List (α1 → α2 → Res β) → Prop
  | nil : GL2 X k [] []
  | cons {x : Str} {fa : Addr} {fd : FuncData} {ps : List Str} {f : α1 → α2 → Res β} {l : List (Str × Addr)} {fs : List (α1 → α2 → Res β)} (C : FnC X.K X.mg x fa fd ps) (G : FnV X.prog X.w X.K X.mg X.base k fa fd ps (Rn2 f)) (r : GL2 X k l fs) : GL2 X k ((x, fa) :: l) (f :: fs)
theorem XV.fnl2 {k : Nat} {e1 e2 ix : Expr} {es : List Expr} {l : List (Str × Addr)} {p1 p2 : Pos} {fs : List (α1 → α2 → Res β)} {mi : Res Int} {m1 : Res α1} {m2 : Res α2} (hn : NmL X es l) (hG : GL2 X k l fs) (gr : GRoom k X.A) (tk : Takes X W) (hi : XV X W ρ ix mi) (h1 : XV X W ρ e1 m1) (h2 : XV X W ρ e2 m2) (hz : l.length ≤ 1000 := by exact Nat.le_of_ble_eq_true rfl)
    (s1 : starEach [e1, e2] X.env = (false, eval e1 X.env) :: starEach [e2] X.env := by rfl) (s2 : starEach [e2] X.env = (false, eval e2 X.env) :: starEach [] X.env := by rfl) (hpl : (backTo pos (starEach [e2] X.env)).any (·.1) = false := by rfl) (hs : PlainIx ix := by exact fun _ _ => rfl) :
    XV X W ρ (.Call (.Subscript (.List es p1) ix p2) [e1, e2] [] pos) (do
    let i ← mi
    let g ← pickF fs i
    let x1 ← m1
    let x2 ← m2
    g x1 x2) := by
  have hl : ∀ {l : List (Str × Addr)} {fs : List (α1 → α2 → Res β)}, GL2 X k l fs → l.length = fs.length := fun h => by
    induction h with
    | nil => rfl
    | cons _ _ _ ih => exact congrArg Nat.succ ih
  have at_ : ∀ {l : List (Str × Addr)} {fs : List (α1 → α2 → Res β)}, GL2 X k l fs → ∀ (j : Nat) (z : Str × Addr) (f : α1 → α2 → Res β), l[j]? = some z → (fs.map fun f (i : α1 × α2) => f (i.1) (i.2))[j]? = some (fun i => f (i.1) (i.2)) → ∃ fd ps, FnC X.K X.mg z.1 z.2 fd ps ∧ FnV X.prog X.w X.K X.mg X.base k z.2 fd ps (fun ds r => ∃ i : α1 × α2, ds = [toD (i.1), toD (i.2)] ∧ r = (f (i.1) (i.2)).map toD) := fun h => by
    induction h with
    | nil => intro j z f h; simp at h
    | @cons x fa fd ps f0 l fs C G r ih =>
      intro j z f h1 h2
      cases j with
      | zero =>
        simp only [List.getElem?_cons_zero, Option.some.injEq] at h1
        subst h1
        simp only [List.map_cons, List.getElem?_cons_zero, Option.some.injEq] at h2
        have e : f0 = f := by
          funext x1 x2
          exact congrFun h2 (x1, x2)
        subst e
        exact ⟨fd, ps, C, ⟨fun vs H Q E ⟨F, ds, r, ⟨i, e1, e2⟩, q⟩ => G.len vs H Q E ⟨F, ds, r, ⟨i.1, i.2, e1, e2⟩, q⟩, fun A outer s H args us vs Q E hr e0 hb rv ⟨F, ds, r, ⟨i, e1, e2⟩, q⟩ => G.run A outer s H args us vs Q E hr e0 hb rv ⟨F, ds, r, ⟨i.1, i.2, e1, e2⟩, q⟩⟩⟩
      | succ j =>
        simp only [List.getElem?_cons_succ] at h1
        simp only [List.map_cons, List.getElem?_cons_succ] at h2
        exact ih j z f h1 h2
  refine (XV.fnlI (args := fun i : α1 × α2 => [toD (i.1), toD (i.2)]) (fs := fs.map fun f (i : α1 × α2) => f (i.1) (i.2)) (mm := (do
    let x1 ← m1
    let x2 ← m2
    Res.ok (x1, x2))) hn (by rw [List.length_map]; exact hl hG) hz (fun j z f e1 e2 => ?_) gr tk hi (XA.eq (XA.cons h1 (XA.cons h2 XA.nil s2) s1) ?_) s1 hpl hs).eq ?_
  · rw [List.getElem?_map] at e2
    cases e3 : fs[j]? with
    | none => rw [e3] at e2; cases e2
    | some g =>
      have e4 : (fun i : α1 × α2 => g (i.1) (i.2)) = f := by rw [e3] at e2; exact Option.some.inj e2
      obtain ⟨fd, ps, C, G⟩ := at_ hG j z g e1 (by rw [List.getElem?_map, e3]; rfl)
      exact ⟨fd, ps, C, by rw [← e4]; exact G⟩
  · cases m1 with
    | exc c i => rfl
    | stuck => rfl
    | ok y1 =>
      cases m2 with
      | exc c i => rfl
      | stuck => rfl
      | ok y2 =>
        rfl
  · cases mi with
    | exc c i => rfl
    | stuck => rfl
    | ok i =>
      show (pickF fs i >>= _) = (pickF (fs.map _) i >>= _)
      unfold pickF getL
      rw [List.length_map]
      cases Vs.idx fs.length i with
      | none => rfl
      | some j =>
        simp only [Option.bind_some, List.getElem?_map]
        cases fs[j]? with
        | none => rfl
        | some g =>
          show ((do
            let x1 ← m1
            let x2 ← m2
            g x1 x2) : Res β) = ((do
            let x1 ← m1
            let x2 ← m2
            Res.ok (x1, x2)) >>= fun i => g (i.1) (i.2))
          cases m1 with
          | exc c i => rfl
          | stuck => rfl
          | ok y1 =>
            cases m2 with
            | exc c i => rfl
            | stuck => rfl
            | ok y2 =>
              rfl
end
theorem FnV.dyn2 {P : Program} {w : World} {K : PySem.W.Frag} {mg : Str → Option Value} {base : Heap} {k : Nat} {fa : Addr} {fd : FuncData} {ps : List Str} {α1 : Type} [Enc α1] {α2 : Type} [Enc α2] {β : Type} [Enc β] {f : α1 → α2 → Res β} (G : FnV P w K mg base k fa fd ps (Rn2 f)) : FnV P w K mg base k fa fd ps (Rn2 fun x1 x2 => f x1 x2 >>= fun z => .ok (dynR z)) :=
  ⟨fun vs H Q E ⟨F, ds, r, ⟨x1, x2, e1, e2⟩, q⟩ => G.len vs H Q E ⟨F, ds, r, ⟨x1, x2, e1, (e2.trans (dyn_map _))⟩, q⟩, fun A outer s H args us vs Q E hr e0 hb rv ⟨F, ds, r, ⟨x1, x2, e1, e2⟩, q⟩ => G.run A outer s H args us vs Q E hr e0 hb rv ⟨F, ds, r, ⟨x1, x2, e1, (e2.trans (dyn_map _))⟩, q⟩⟩
section
variable {X : Cx} {W : WX} {ρ : Rs} {pos : Pos} {α1 : Type} [Enc α1] {α2 : Type} [Enc α2] {α3 : Type} [Enc α3] {β : Type} [Enc β]
/-- what is known of each def of the list -/
inductive GL3 (X : Cx) (k : Nat) : List (Str × Addr) → List (α1 → α2 → α3 → Res β) → Prop
  | nil : GL3 X k [] []
  | cons {x : Str} {fa : Addr} {fd : FuncData} {ps : List Str} {f : α1 → α2 → α3 → Res β} {l : List (Str × Addr)} {fs : List (α1 → α2 → α3 → Res β)} (C : FnC X.K X.mg x fa fd ps) (G : FnV X.prog X.w X.K X.mg X.base k fa fd ps (Rn3 f)) (r : GL3 X k l fs) : GL3 X k ((x, fa) :: l) (f :: fs)
theorem XV.fnl3 {k : Nat} {e1 e2 e3 ix : Expr} {es : List Expr} {l : List (Str × Addr)} {p1 p2 : Pos} {fs : List (α1 → α2 → α3 → Res β)} {mi : Res Int} {m1 : Res α1} {m2 : Res α2} {m3 : Res α3} (hn : NmL X es l) (hG : GL3 X k l fs) (gr : GRoom k X.A) (tk : Takes X W) (hi : XV X W ρ ix mi) (h1 : XV X W ρ e1 m1) (h2 : XV X W ρ e2 m2) (h3 : XV X W ρ e3 m3) (hz : l.length ≤ 1000 := by exact Nat.le_of_ble_eq_true rfl)
    (s1 : starEach [e1, e2, e3] X.env = (false, eval e1 X.env) :: starEach [e2, e3] X.env := by rfl) (s2 : starEach [e2, e3] X.env = (false, eval e2 X.env) :: starEach [e3] X.env := by rfl) (s3 : starEach [e3] X.env = (false, eval e3 X.env) :: starEach [] X.env := by rfl) (hpl : (backTo pos (starEach [e2, e3] X.env)).any (·.1) = false := by rfl) (hs : PlainIx ix := by exact fun _ _ => rfl) :
    XV X W ρ (.Call (.Subscript (.List es p1) ix p2) [e1, e2, e3] [] pos) (do
    let i ← mi
    let g ← pickF fs i
    let x1 ← m1
    let x2 ← m2
    let x3 ← m3
    g x1 x2 x3) := by
  have hl : ∀ {l : List (Str × Addr)} {fs : List (α1 → α2 → α3 → Res β)}, GL3 X k l fs → l.length = fs.length := fun h => by
    induction h with
    | nil => rfl
    | cons _ _ _ ih => exact congrArg Nat.succ ih
  have at_ : ∀ {l : List (Str × Addr)} {fs : List (α1 → α2 → α3 → Res β)}, GL3 X k l fs → ∀ (j : Nat) (z : Str × Addr) (f : α1 → α2 → α3 → Res β), l[j]? = some z → (fs.map fun f (i : α1 × α2 × α3) => f (i.1) (i.2.1) (i.2.2))[j]? = some (fun i => f (i.1) (i.2.1) (i.2.2)) → ∃ fd ps, FnC X.K X.mg z.1 z.2 fd ps ∧ FnV X.prog X.w X.K X.mg X.base k z.2 fd ps (fun ds r => ∃ i : α1 × α2 × α3, ds = [toD (i.1), toD (i.2.1), toD (i.2.2)] ∧ r = (f (i.1) (i.2.1) (i.2.2)).map toD) := fun h => by
    induction h with
    | nil => intro j z f h; simp at h
    | @cons x fa fd ps f0 l fs C G r ih =>
      intro j z f h1 h2
      cases j with
      | zero =>
        simp only [List.getElem?_cons_zero, Option.some.injEq] at h1
        subst h1
        simp only [List.map_cons, List.getElem?_cons_zero, Option.some.injEq] at h2
        have e : f0 = f := by
          funext x1 x2 x3
          exact congrFun h2 (x1, x2, x3)
        subst e
        exact ⟨fd, ps, C, ⟨fun vs H Q E ⟨F, ds, r, ⟨i, e1, e2⟩, q⟩ => G.len vs H Q E ⟨F, ds, r, ⟨i.1, i.2.1, i.2.2, e1, e2⟩, q⟩, fun A outer s H args us vs Q E hr e0 hb rv ⟨F, ds, r, ⟨i, e1, e2⟩, q⟩ => G.run A outer s H args us vs Q E hr e0 hb rv ⟨F, ds, r, ⟨i.1, i.2.1, i.2.2, e1, e2⟩, q⟩⟩⟩
      | succ j =>
        simp only [List.getElem?_cons_succ] at h1
        simp only [List.map_cons, List.getElem?_cons_succ] at h2
        exact ih j z f h1 h2
  refine (XV.fnlI (args := fun i : α1 × α2 × α3 => [toD (i.1), toD (i.2.1), toD (i.2.2)]) (fs := fs.map fun f (i : α1 × α2 × α3) => f (i.1) (i.2.1) (i.2.2)) (mm := (do
    let x1 ← m1
    let x2 ← m2
    let x3 ← m3
    Res.ok (x1, x2, x3))) hn (by rw [List.length_map]; exact hl hG) hz (fun j z f e1 e2 => ?_) gr tk hi (XA.eq (XA.cons h1 (XA.cons h2 (XA.cons h3 XA.nil s3) s2) s1) ?_) s1 hpl hs).eq ?_
  · rw [List.getElem?_map] at e2
    cases e3 : fs[j]? with
    | none => rw [e3] at e2; cases e2
    | some g =>
      have e4 : (fun i : α1 × α2 × α3 => g (i.1) (i.2.1) (i.2.2)) = f := by rw [e3] at e2; exact Option.some.inj e2
      obtain ⟨fd, ps, C, G⟩ := at_ hG j z g e1 (by rw [List.getElem?_map, e3]; rfl)
      exact ⟨fd, ps, C, by rw [← e4]; exact G⟩
  · cases m1 with
    | exc c i => rfl
    | stuck => rfl
    | ok y1 =>
      cases m2 with
      | exc c i => rfl
      | stuck => rfl
      | ok y2 =>
        cases m3 with
        | exc c i => rfl
        | stuck => rfl
        | ok y3 =>
          rfl
  · cases mi with
    | exc c i => rfl
    | stuck => rfl
    | ok i =>
      show (pickF fs i >>= _) = (pickF (fs.map _) i >>= _)
      unfold pickF getL
      rw [List.length_map]
      cases Vs.idx fs.length i with
      | none => rfl
      | some j =>
        simp only [Option.bind_some, List.getElem?_map]
        cases fs[j]? with
        | none => rfl
        | some g =>
          show ((do
            let x1 ← m1
            let x2 ← m2
            let x3 ← m3
            g x1 x2 x3) : Res β) = ((do
            let x1 ← m1
            let x2 ← m2
            let x3 ← m3
            Res.ok (x1, x2, x3)) >>= fun i => g (i.1) (i.2.1) (i.2.2))
          cases m1 with
          | exc c i => rfl
          | stuck => rfl
          | ok y1 =>
            cases m2 with
            | exc c i => rfl
            | stuck => rfl
            | ok y2 =>
              cases m3 with
              | exc c i => rfl
              | stuck => rfl
              | ok y3 =>
                rfl
end
theorem FnV.dyn3 {P : Program} {w : World} {K : PySem.W.Frag} {mg : Str → Option Value} {base : Heap} {k : Nat} {fa : Addr} {fd : FuncData} {ps : List Str} {α1 : Type} [Enc α1] {α2 : Type} [Enc α2] {α3 : Type} [Enc α3] {β : Type} [Enc β] {f : α1 → α2 → α3 → Res β} (G : FnV P w K mg base k fa fd ps (Rn3 f)) : FnV P w K mg base k fa fd ps (Rn3 fun x1 x2 x3 => f x1 x2 x3 >>= fun z => .ok (dynR z)) :=
  ⟨fun vs H Q E ⟨F, ds, r, ⟨x1, x2, x3, e1, e2⟩, q⟩ => G.len vs H Q E ⟨F, ds, r, ⟨x1, x2, x3, e1, (e2.trans (dyn_map _))⟩, q⟩, fun A outer s H args us vs Q E hr e0 hb rv ⟨F, ds, r, ⟨x1, x2, x3, e1, e2⟩, q⟩ => G.run A outer s H args us vs Q E hr e0 hb rv ⟨F, ds, r, ⟨x1, x2, x3, e1, (e2.trans (dyn_map _))⟩, q⟩⟩
section
variable {X : Cx} {W : WX} {ρ : Rs} {pos : Pos} {α1 : Type} [Enc α1] {α2 : Type} [Enc α2] {α3 : Type} [Enc α3] {α4 : Type} [Enc α4] {β : Type} [Enc β]
/-- what is known of each def of the list -/
inductive GL4 (X : Cx) (k : Nat) : List (Str × Addr) → List (α1 → α2 → α3 → α4 → Res β) → Prop
  | nil : GL4 X k [] []
  | cons {x : Str} {fa : Addr} {fd : FuncData} {ps : List Str} {f : α1 → α2 → α3 → α4 → Res β} {l : List (Str × Addr)} {fs : List (α1 → α2 → α3 → α4 → Res β)} (C : FnC X.K X.mg x fa fd ps) (G : FnV X.prog X.w X.K X.mg X.base k fa fd ps (Rn4 f)) (r : GL4 X k l fs) : GL4 X k ((x, fa) :: l) (f :: fs)
theorem XV.fnl4 {k : Nat} {e1 e2 e3 e4 ix : Expr} {es : List Expr} {l : List (Str × Addr)} {p1 p2 : Pos} {fs : List (α1 → α2 → α3 → α4 → Res β)} {mi : Res Int} {m1 : Res α1} {m2 : Res α2} {m3 : Res α3} {m4 : Res α4} (hn : NmL X es l) (hG : GL4 X k l fs) (gr : GRoom k X.A) (tk : Takes X W) (hi : XV X W ρ ix mi) (h1 : XV X W ρ e1 m1) (h2 : XV X W ρ e2 m2) (h3 : XV X W ρ e3 m3) (h4 : XV X W ρ e4 m4) (hz : l.length ≤ 1000 := by exact Nat.le_of_ble_eq_true rfl)
    (s1 : starEach [e1, e2, e3, e4] X.env = (false, eval e1 X.env) :: starEach [e2, e3, e4] X.env := by rfl) (s2 : starEach [e2, e3, e4] X.env = (false, eval e2 X.env) :: starEach [e3, e4] X.env := by rfl) (s3 : starEach [e3, e4] X.env = (false, eval e3 X.env) :: starEach [e4] X.env := by rfl) (s4 : starEach [e4] X.env = (false, eval e4 X.env) :: starEach [] X.env := by rfl) (hpl : (backTo pos (starEach [e2, e3, e4] X.env)).any (·.1) = false := by rfl) (hs : PlainIx ix := by exact fun _ _ => rfl) :
    XV X W ρ (.Call (.Subscript (.List es p1) ix p2) [e1, e2, e3, e4] [] pos) (do
    let i ← mi
    let g ← pickF fs i
    let x1 ← m1
    let x2 ← m2
    let x3 ← m3
    let x4 ← m4
    g x1 x2 x3 x4) := by
  have hl : ∀ {l : List (Str × Addr)} {fs : List (α1 → α2 → α3 → α4 → Res β)}, GL4 X k l fs → l.length = fs.length := fun h => by
    induction h with
    | nil => rfl
    | cons _ _ _ ih => exact congrArg Nat.succ ih
  have at_ : ∀ {l : List (Str × Addr)} {fs : List (α1 → α2 → α3 → α4 → Res β)}, GL4 X k l fs → ∀ (j : Nat) (z : Str × Addr) (f : α1 → α2 → α3 → α4 → Res β), l[j]? = some z → (fs.map fun f (i : α1 × α2 × α3 × α4) => f (i.1) (i.2.1) (i.2.2.1) (i.2.2.2))[j]? = some (fun i => f (i.1) (i.2.1) (i.2.2.1) (i.2.2.2)) → ∃ fd ps, FnC X.K X.mg z.1 z.2 fd ps ∧ FnV X.prog X.w X.K X.mg X.base k z.2 fd ps (fun ds r => ∃ i : α1 × α2 × α3 × α4, ds = [toD (i.1), toD (i.2.1), toD (i.2.2.1), toD (i.2.2.2)] ∧ r = (f (i.1) (i.2.1) (i.2.2.1) (i.2.2.2)).map toD) := fun h => by
    induction h with
    | nil => intro j z f h; simp at h
    | @cons x fa fd ps f0 l fs C G r ih =>
      intro j z f h1 h2
      cases j with
      | zero =>
        simp only [List.getElem?_cons_zero, Option.some.injEq] at h1
        subst h1
        simp only [List.map_cons, List.getElem?_cons_zero, Option.some.injEq] at h2
        have e : f0 = f := by
          funext x1 x2 x3 x4
          exact congrFun h2 (x1, x2, x3, x4)
        subst e
        exact ⟨fd, ps, C, ⟨fun vs H Q E ⟨F, ds, r, ⟨i, e1, e2⟩, q⟩ => G.len vs H Q E ⟨F, ds, r, ⟨i.1, i.2.1, i.2.2.1, i.2.2.2, e1, e2⟩, q⟩, fun A outer s H args us vs Q E hr e0 hb rv ⟨F, ds, r, ⟨i, e1, e2⟩, q⟩ => G.run A outer s H args us vs Q E hr e0 hb rv ⟨F, ds, r, ⟨i.1, i.2.1, i.2.2.1, i.2.2.2, e1, e2⟩, q⟩⟩⟩
      | succ j =>
        simp only [List.getElem?_cons_succ] at h1
        simp only [List.map_cons, List.getElem?_cons_succ] at h2
        exact ih j z f h1 h2
  refine (XV.fnlI (args := fun i : α1 × α2 × α3 × α4 => [toD (i.1), toD (i.2.1), toD (i.2.2.1), toD (i.2.2.2)]) (fs := fs.map fun f (i : α1 × α2 × α3 × α4) => f (i.1) (i.2.1) (i.2.2.1) (i.2.2.2)) (mm := (do
    let x1 ← m1
    let x2 ← m2
    let x3 ← m3
    let x4 ← m4
    Res.ok (x1, x2, x3, x4))) hn (by rw [List.length_map]; exact hl hG) hz (fun j z f e1 e2 => ?_) gr tk hi (XA.eq (XA.cons h1 (XA.cons h2 (XA.cons h3 (XA.cons h4 XA.nil s4) s3) s2) s1) ?_) s1 hpl hs).eq ?_
  · rw [List.getElem?_map] at e2
    cases e3 : fs[j]? with
    | none => rw [e3] at e2; cases e2
    | some g =>
      have e4 : (fun i : α1 × α2 × α3 × α4 => g (i.1) (i.2.1) (i.2.2.1) (i.2.2.2)) = f := by rw [e3] at e2; exact Option.some.inj e2
      obtain ⟨fd, ps, C, G⟩ := at_ hG j z g e1 (by rw [List.getElem?_map, e3]; rfl)
      exact ⟨fd, ps, C, by rw [← e4]; exact G⟩
  · cases m1 with
    | exc c i => rfl
    | stuck => rfl
    | ok y1 =>
      cases m2 with
      | exc c i => rfl
      | stuck => rfl
      | ok y2 =>
        cases m3 with
        | exc c i => rfl
        | stuck => rfl
        | ok y3 =>
          cases m4 with
          | exc c i => rfl
          | stuck => rfl
          | ok y4 =>
            rfl
  · cases mi with
    | exc c i => rfl
    | stuck => rfl
    | ok i =>
      show (pickF fs i >>= _) = (pickF (fs.map _) i >>= _)
      unfold pickF getL
      rw [List.length_map]
      cases Vs.idx fs.length i with
      | none => rfl
      | some j =>
        simp only [Option.bind_some, List.getElem?_map]
        cases fs[j]? with
        | none => rfl
        | some g =>
          show ((do
            let x1 ← m1
            let x2 ← m2
            let x3 ← m3
            let x4 ← m4
            g x1 x2 x3 x4) : Res β) = ((do
            let x1 ← m1
            let x2 ← m2
            let x3 ← m3
            let x4 ← m4
            Res.ok (x1, x2, x3, x4)) >>= fun i => g (i.1) (i.2.1) (i.2.2.1) (i.2.2.2))
          cases m1 with
          | exc c i => rfl
          | stuck => rfl
          | ok y1 =>
            cases m2 with
            | exc c i => rfl
            | stuck => rfl
            | ok y2 =>
              cases m3 with
              | exc c i => rfl
              | stuck => rfl
              | ok y3 =>
                cases m4 with
                | exc c i => rfl
                | stuck => rfl
                | ok y4 =>
                  rfl
end
theorem FnV.dyn4 {P : Program} {w : World} {K : PySem.W.Frag} {mg : Str → Option Value} {base : Heap} {k : Nat} {fa : Addr} {fd : FuncData} {ps : List Str} {α1 : Type} [Enc α1] {α2 : Type} [Enc α2] {α3 : Type} [Enc α3] {α4 : Type} [Enc α4] {β : Type} [Enc β] {f : α1 → α2 → α3 → α4 → Res β} (G : FnV P w K mg base k fa fd ps (Rn4 f)) : FnV P w K mg base k fa fd ps (Rn4 fun x1 x2 x3 x4 => f x1 x2 x3 x4 >>= fun z => .ok (dynR z)) :=
  ⟨fun vs H Q E ⟨F, ds, r, ⟨x1, x2, x3, x4, e1, e2⟩, q⟩ => G.len vs H Q E ⟨F, ds, r, ⟨x1, x2, x3, x4, e1, (e2.trans (dyn_map _))⟩, q⟩, fun A outer s H args us vs Q E hr e0 hb rv ⟨F, ds, r, ⟨x1, x2, x3, x4, e1, e2⟩, q⟩ => G.run A outer s H args us vs Q E hr e0 hb rv ⟨F, ds, r, ⟨x1, x2, x3, x4, e1, (e2.trans (dyn_map _))⟩, q⟩⟩
end Vs
end
section
set_option Elab.async false
set_option linter.all false
set_option maxRecDepth 100000
/-! Vs16: the head's facts, with the statics' table among the roots (an error's super().__init__ asks it). -/
namespace Vs
open Enc (toD)
open PySem PySem.Spec PyProof.Rows L2 He
def asY (g : Addr → Option Obj) (n : Nat) : List Addr := cStatics :: asD g n
abbrev AlY : Type := AlT × Bool
def obsY (n : Nat) (fa : List Fa) (fn : List DefD) (ex : PySem.W.Frag → Bool) (g : Addr → Option Obj) : AlY := (obsT fa fn [] (frT g (asY g n)), ex (frT g (asY g n)))
def valY (fn : List DefD) (w : World) : AlY := (valT fn [] w, true)
structure SaysY (fa : List Fa) (fn : List DefD) (ex : PySem.W.Frag → Bool) (w : World) (K : PySem.W.Frag) : Prop where
  t : SaysT fa fn [] w K
  more : ex K = true
def hookY (n : Nat) (fa : List Fa) (fn : List DefD) (ex : PySem.W.Frag → Bool) : PySem.W.Hook where
  α := AlY
  obs := fun s => obsY n fa fn ex s.heap.get?
  val := fun w => valY fn w
  says := fun w h => ∃ K : PySem.W.Frag, K.In h ∧ SaysY fa fn ex w K
  of := fun w s e => ⟨_, frT_in, ⟨congrArg (fun z : AlY => z.1) e, congrArg (fun z : AlY => z.2) e⟩⟩
  keeps := fun _ _ _ ⟨K, hK, c⟩ k => ⟨K, PySem.W.Frag.In.keeps hK k, c⟩
theorem obsY_eq {n : Nat} {fa : List Fa} {fn : List DefD} {ex : PySem.W.Frag → Bool} {g : Addr → Option Obj} {s : Shared} (h : ∀ a, g a = s.heap.get? a) : obsY n fa fn ex g = (hookY n fa fn ex).obs s := by
  have e : g = s.heap.get? := funext h
  subst e
  exact Eq.refl _
/-- the end of a law's walk -/
theorem walk_ofGw {l : PySem.W.OpenLaw} {n k : Nat} {q : Program} {loose : List Str} {XP : (Str → Option Value) → Heap → Prop} {YP : World → Heap → Prop} {d : DefRec} {CX : World → CXT} {x : Str}
    (hn : l.most = some n) (hn2 : n ≤ sizeLine) (hdf : d.params.defaults = []) (gr : GRoom k callerA)
    (F : ∀ (w : World) (mg : Str → Option Value) (fa : Addr) (h : Heap), YP w h → h.Ns mainGlobals mg → mg d.name = some (.ref fa) →
      ∃ (K : PySem.W.Frag) (fd : FuncData) (sp : Sp), K.In h ∧ (∀ (s : Shared) (u : Value), BindsTo s fd ⟨[u], []⟩ [(x, u)]) ∧ (∀ (H : Hp) (a : Addr) (ns : List Int), ns.length ≤ n → Only H → SqL K H a (ns.map V.int) → sp [.ref a] H (fun v _ => v = .bl true) fun _ _ _ => False) ∧
        ∀ base : Heap, K.In base → base.Ns mainGlobals mg → FnG l.prog w K mg base (CX w) k fa fd [x] sp)
    (hCX : ∀ (w : World) (H : Hp) (s : Shared) (e : Value) (s' : Shared), CX w [] H s (fun _ _ _ => False) e s' → False) : PySem.W.WalkO q loose XP YP l.row.toRowW d [] (fun f vs => PySem.call f vs) := by
  refine Att.attach_call hn hdf fun w s₀ t1 mg mb fa o pm cd doc a vs ns G Y _ _ _ hmg hobj hints hlen hg => ?_
  obtain ⟨K, fd, sp, KX, hb, hP, hF⟩ := F w mg fa _ Y G.T.g hmg
  exact law_callG KX G.T.g G.T.b G.T.builtins G.T.nolimit hg hobj hints (Nat.le_trans hlen hn2) gr hF hb (fun H hO hS => hP H a ns hlen hO hS) fun H e s' => hCX w H t1 e s'
theorem rpAll_ints {K : PySem.W.Frag} {F : Hp} : ∀ ns : List Int, RpAll K F (ns.map V.int) (ns.map toD)
  | [] => .nil
  | n :: ns => .cons (.int n) (rpAll_ints ns)
theorem law_sp {K : PySem.W.Frag} {H : Hp} {a : Addr} {ns : List Int} {f : Scr → Res Bool} (hO : Only H) (hS : SqL K H a (ns.map V.int)) (h : f ⟨ns⟩ = .ok true) :
    spR K (Rn1 f) [V.ref a] H (fun v _ => v = V.bl true) (fun _ _ _ => False) := by
  refine ⟨H, [toD (⟨ns⟩ : Scr)], _, ⟨⟨ns⟩, rfl, rfl⟩, fun _ _ e => e, .cons (.scr hS (rpAll_ints ns)) .nil, ?_⟩
  rw [h]
  intro v F' H' g r
  cases r with
  | bl => rfl
end Vs
end
section
set_option Elab.async false
set_option linter.all false
set_option maxRecDepth 100000
/-! Vs17: plain lemmas on the mirrors' operations. -/
namespace Vs
open Enc (toD)
open PySem PySem.Spec PyProof.Rows
section
variable {α β γ σ Ω : Type}
theorem foldR_inv {f : σ → α → Res σ} {I : σ → Prop} : ∀ {xs : List α} {s : σ}, (∀ x ∈ xs, ∀ s, I s → ∃ s', f s x = .ok s' ∧ I s') → I s → ∃ s', foldR f xs s = .ok s' ∧ I s'
  | [], s, _, h => ⟨s, rfl, h⟩
  | x :: xs, s, hf, h => by
    obtain ⟨s1, e, h1⟩ := hf x List.mem_cons_self s h
    obtain ⟨s2, e2, h2⟩ := foldR_inv (xs := xs) (fun y hy => hf y (List.mem_cons_of_mem _ hy)) h1
    exact ⟨s2, by show (f s x >>= fun s' => foldR f xs s') = _; rw [e]; exact e2, h2⟩
theorem foldR_invN {f : σ → α → Res σ} {I : Nat → σ → Prop} : ∀ {xs : List α} {s : σ} {n : Nat}, (∀ k x, xs[k]? = some x → ∀ s, I (n + k) s → ∃ s', f s x = .ok s' ∧ I (n + k + 1) s') → I n s → ∃ s', foldR f xs s = .ok s' ∧ I (n + xs.length) s'
  | [], s, n, _, h => ⟨s, rfl, h⟩
  | x :: xs, s, n, hf, h => by
    obtain ⟨s1, e, h1⟩ := hf 0 x rfl s h
    obtain ⟨s2, e2, h2⟩ := foldR_invN (xs := xs) (n := n + 1) (I := I) (fun k y hy s hs => by
      have z := hf (k + 1) y hy s (by rw [show n + (k + 1) = n + 1 + k by omega]; exact hs)
      rw [show n + (k + 1) + 1 = n + 1 + k + 1 by omega] at z
      exact z) h1
    exact ⟨s2, by show (f s x >>= fun s' => foldR f xs s') = _; rw [e]; exact e2, by rw [List.length_cons, show n + (xs.length + 1) = n + 1 + xs.length by omega]; exact h2⟩
theorem foldR_pure {f : σ → α → Res σ} {g : σ → α → σ} : ∀ {xs : List α} {s : σ}, (∀ x ∈ xs, ∀ s, f s x = .ok (g s x)) → foldR f xs s = .ok (xs.foldl g s)
  | [], s, _ => rfl
  | x :: xs, s, hf => by
    show (f s x >>= fun s' => foldR f xs s') = _
    rw [hf x List.mem_cons_self]
    exact foldR_pure fun y hy => hf y (List.mem_cons_of_mem _ hy)
theorem foldC_inv {f : σ → α → Res (Ctl Ω σ)} {I : σ → Prop} : ∀ {xs : List α} {s : σ}, (∀ x ∈ xs, ∀ s, I s → ∃ s', f s x = .ok (.nx s') ∧ I s') → I s → ∃ s', foldC f xs s = .ok (.nx s') ∧ I s'
  | [], s, _, h => ⟨s, rfl, h⟩
  | x :: xs, s, hf, h => by
    obtain ⟨s1, e, h1⟩ := hf x List.mem_cons_self s h
    obtain ⟨s2, e2, h2⟩ := foldC_inv (xs := xs) (fun y hy => hf y (List.mem_cons_of_mem _ hy)) h1
    exact ⟨s2, by
      show (f s x >>= fun c => _) = _
      rw [e]; exact e2, h2⟩
/-- a loop that goes through with nothing kept -/
theorem foldC_unit {f : Unit → α → Res (Ctl Ω Unit)} {xs : List α} (h : ∀ x ∈ xs, f () x = .ok (.nx ())) : foldC f xs () = .ok (.nx ()) := by
  obtain ⟨s, e, _⟩ := foldC_inv (f := f) (I := fun _ => True) (xs := xs) (s := ()) (fun x hx s _ => ⟨(), h x hx, trivial⟩) trivial
  exact e
theorem lcR_pure {t : α → Res Bool} {f : α → Res β} {b : α → Bool} {g : α → β} : ∀ {xs : List α}, (∀ x ∈ xs, t x = .ok (b x)) → (∀ x ∈ xs, b x = true → f x = .ok (g x)) → lcR t f xs = .ok ((xs.filter b).map g)
  | [], _, _ => rfl
  | x :: xs, ht, hf => by
    have ih := lcR_pure (xs := xs) (fun y hy => ht y (List.mem_cons_of_mem _ hy)) fun y hy => hf y (List.mem_cons_of_mem _ hy)
    show (noX (t x) >>= fun b => if b then noX (f x) >>= fun y => lcR t f xs >>= fun ys => .ok (y :: ys) else lcR t f xs) = _
    rw [ht x List.mem_cons_self, ih]
    cases q : b x with
    | true => rw [List.filter_cons_of_pos q, hf x List.mem_cons_self q]; rfl
    | false => rw [List.filter_cons_of_neg (by rw [q]; decide)]; rfl
/-- every item is told, with a property of its own -/
theorem lcR_all {f : α → Res β} {Q : β → Prop} : ∀ {xs : List α}, (∀ x ∈ xs, ∃ y, f x = .ok y ∧ Q y) → ∃ ys, lcR (fun _ => .ok true) f xs = .ok ys ∧ ys.length = xs.length ∧ ∀ y ∈ ys, Q y
  | [], _ => ⟨[], rfl, rfl, fun _ h => nomatch h⟩
  | x :: xs, h => by
    obtain ⟨y, e, q⟩ := h x List.mem_cons_self
    obtain ⟨ys, e2, l, q2⟩ := lcR_all (xs := xs) fun z hz => h z (List.mem_cons_of_mem _ hz)
    refine ⟨y :: ys, ?_, by simp [l], fun z hz => ?_⟩
    · show (noX (f x) >>= fun y => lcR _ f xs >>= fun ys => .ok (y :: ys)) = _
      rw [e, e2]; rfl
    · rcases List.mem_cons.mp hz with rfl | hz
      · exact q
      · exact q2 z hz
theorem rangeR_is {lo hi : Int} (h1 : -1000000 ≤ lo) (h2 : lo ≤ 1000000) (h3 : -1000000 ≤ hi) (h4 : hi ≤ 1000000) : rangeR lo hi = .ok (rangeL lo hi) := by
  unfold rangeR lim
  rw [if_pos (by refine ⟨?_, ?_, ?_, ?_, ?_⟩ <;> omega)]
theorem mem_rangeL {lo hi x : Int} : x ∈ rangeL lo hi ↔ lo ≤ x ∧ x < hi := by
  unfold rangeL
  rw [List.mem_map]
  constructor
  · rintro ⟨k, hk, rfl⟩
    have := List.mem_range.mp hk
    omega
  · rintro ⟨h1, h2⟩
    exact ⟨(x - lo).toNat, List.mem_range.mpr (by omega), by omega⟩
theorem rangeL_length (lo hi : Int) : (rangeL lo hi).length = (hi - lo).toNat := by simp [rangeL]
theorem rangeL_get {lo hi : Int} {k : Nat} (h : k < (hi - lo).toNat) : (rangeL lo hi)[k]? = some (lo + (k : Int)) := by
  unfold rangeL
  rw [List.getElem?_map, List.getElem?_range h]; rfl
theorem rangeL_lt (lo hi : Int) : (rangeL lo hi).Pairwise (· < ·) := by
  unfold rangeL
  rw [List.pairwise_map]
  exact List.Pairwise.imp (fun h => by omega) List.pairwise_lt_range
theorem getL_is {xs : List α} {i : Int} (h1 : 0 ≤ i) (h2 : i < xs.length) : ∃ v, xs[i.toNat]? = some v ∧ getL xs i = .ok v ∧ v ∈ xs := by
  have hl : i.toNat < xs.length := by omega
  refine ⟨xs[i.toNat], List.getElem?_eq_getElem hl, ?_, List.getElem_mem hl⟩
  unfold getL idx
  rw [if_pos h1, if_pos (by omega)]
  simp only [Option.bind_some, List.getElem?_eq_getElem hl]
theorem mkL_is {xs : List α} (h : xs.length ≤ lim) : mkL xs = .ok xs := if_pos h
theorem mulI_r {a b : Int} (h1 : -big < b) (h2 : b < big) : mulI a b = .ok (a * b) := if_pos (.inr ⟨h1, h2⟩)
theorem mulI_l {a b : Int} (h1 : -big < a) (h2 : a < big) : mulI a b = .ok (a * b) := if_pos (.inl ⟨h1, h2⟩)
theorem modI_ok {a b : Int} (h : b ≠ 0) : modI a b = .ok (a.fmod b) := if_pos h
theorem fdivI_ok {a b : Int} (h : b ≠ 0) (h2 : b.natAbs < 1073741824) : fdivI a b = .ok (a.fdiv b) := if_pos ⟨h, h2⟩
theorem fmod_rng (a : Int) {b : Int} (h : 0 < b) : 0 ≤ a.fmod b ∧ a.fmod b < b := ⟨Int.fmod_nonneg_of_pos a h, Int.fmod_lt_of_pos a h⟩
/-- lists that rise, of the same members, are the same -/
theorem rise_same {xs ys : List Int} (h1 : xs.Pairwise (· < ·)) (h2 : ys.Pairwise (· < ·)) (h : ∀ k, k ∈ xs ↔ k ∈ ys) : xs = ys :=
  sorted_same (h1.imp fun h => by omega) (h1.imp fun h => by omega) (h2.imp fun h => by omega) (h2.imp fun h => by omega) h
theorem sortS_lt (xs : List Int) : (sortS xs).Pairwise (· < ·) := by
  have h1 := sortS_le xs
  have h2 := sortS_nodup xs
  exact (List.Pairwise.and h1 h2).imp fun ⟨a, b⟩ => by omega
theorem sortS_eq {xs ys : List Int} (h : ys.Pairwise (· < ·)) (hm : ∀ k, k ∈ xs ↔ k ∈ ys) : sortS xs = ys :=
  rise_same (sortS_lt xs) h fun k => sortS_mem.trans (hm k)
theorem sortP_eq {xs ys : List Int} (h : ys.Pairwise (· < ·)) (hn : xs.Nodup) (hm : ∀ k, k ∈ xs ↔ k ∈ ys) : sortP xs = ys :=
  sorted_same (sortP_int_le xs) ((sortP_perm xs).nodup_iff.mpr hn) (h.imp fun h => by omega) (h.imp fun h => by omega) fun k => (sortP_perm xs).mem_iff.trans (hm k)
theorem setI_ok {xs : List Int} (h : xs.length < 4095) : setI xs = .ok xs := if_pos h
end
/-! ### repr -/
theorem shows_int {i : Int} (h0 : 0 ≤ i) (h : i < 10 ^ 38) : (PyData.int i).showable = true ∧ (PyData.int i).leavesShort 40 = true := by
  constructor
  · simp only [PyData.showable, decide_eq_true_eq]
    have h2 : i.natAbs < 2 ^ 127 := by omega
    by_cases e : i.natAbs = 0
    · rw [e]; decide
    · have := (Nat.log2_lt e).mpr h2
      omega
  · simp only [PyData.leavesShort, decide_eq_true_eq]
    have := toString_length_le h0 (k := 38) (by decide) h
    show (Str.ofString (toString i)).length ≤ 40
    omega
theorem shows_ints : ∀ {xs : List Int}, (∀ x ∈ xs, 0 ≤ x ∧ x < 10 ^ 38) → PyData.showableAll (xs.map toD) = true ∧ PyData.leavesShortAll 40 (xs.map toD) = true ∧ PyData.bulkAll (xs.map toD) = xs.length
  | [], _ => ⟨rfl, rfl, rfl⟩
  | x :: xs, h => by
    obtain ⟨h1, h2⟩ := shows_int (h x List.mem_cons_self).1 (h x List.mem_cons_self).2
    obtain ⟨h3, h4, h5⟩ := shows_ints (xs := xs) fun y hy => h y (List.mem_cons_of_mem _ hy)
    refine ⟨?_, ?_, ?_⟩
    · show ((PyData.int x).showable && _) = true
      rw [h1, h3]; rfl
    · show ((PyData.int x).leavesShort 40 && _) = true
      rw [h2, h4]; rfl
    · show 0 + 1 + PyData.bulkAll (xs.map toD) = _
      rw [h5, List.length_cons]; omega
theorem reprR_of {α : Type} [Enc α] {x : α} (h1 : (toD x).showable = true) (h2 : (toD x).leavesShort 40 = true) (h3 : (toD x).bulk ≤ 300000) : reprR x = .ok ⟨(toD x).shown⟩ := by
  have h := PyData.shown_le_bulk 40 (by decide) (toD x) h2
  unfold reprR lim
  rw [if_pos ⟨h1, by omega⟩]
theorem reprR_int {i : Int} (h0 : 0 ≤ i) (h : i < 10 ^ 38) : reprR i = .ok ⟨(toD i).shown⟩ := reprR_of (shows_int h0 h).1 (shows_int h0 h).2 (by show 0 ≤ _; omega)
theorem reprR_ints {xs : List Int} (h : ∀ x ∈ xs, 0 ≤ x ∧ x < 10 ^ 38) (hl : xs.length ≤ 300000) : reprR xs = .ok ⟨(toD xs).shown⟩ := by
  obtain ⟨h1, h2, h3⟩ := shows_ints h
  exact reprR_of (x := xs) (show PyData.showableAll _ = true from h1) (show PyData.leavesShortAll 40 _ = true from h2) (by show PyData.bulkAll _ ≤ _; rw [h3]; exact hl)
end Vs
end
section
set_option Elab.async false
set_option linter.all false
set_option maxRecDepth 100000
/-! Vs18: the draws and the mix of every law. -/
namespace Vs
open Enc (toD)
open PySem PySem.Spec PyProof.Rows
def Dr._law_draws_l1  : ((List Int) × Int) → Int → Res ((List Int) × Int) := fun σ8 ξ9 =>
  (if (decide (0 < σ8.2)) then ((modI σ8.2 65536) >>= fun τ10 => (pushL σ8.1 τ10) >>= fun draws => (fdivI σ8.2 65536) >>= fun rest => .ok (draws, rest)) else
  (.ok (σ8.1, σ8.2))) >>= fun σ12 => .ok (σ12.1, σ12.2)
def Dr._law_draws_l2 (script : Scr) : ((List Int)) → Int → Res ((List Int)) := fun σ2 ξ3 =>
  (getL script.l ξ3) >>= fun τ4 => (let rest : Int := (absI τ4)
  (powI 10 18) >>= fun τ6 => (if (decide (τ6 ≤ rest)) then ((rangeR 0 60) >>= fun τ7 => (foldR (Dr._law_draws_l1) τ7 (σ2, rest)) >>= fun σ13 => .ok σ13.1) else
  ((mulI rest 48271) >>= fun τ15 => (mulI (ξ3 + 1) 69621) >>= fun τ16 => (modI (τ15 + τ16) 2147483647) >>= fun stirred => (mulI stirred 16807) >>= fun τ22 => (mulI 11 ξ3) >>= fun τ23 => (modI ((τ22 + τ23) + 5) 2147483629) >>= fun stirred => (modI stirred 65536) >>= fun τ25 => (pushL σ2 τ25) >>= fun draws => (fdivI stirred 65536) >>= fun τ26 => (modI τ26 32768) >>= fun τ27 => (pushL draws τ27) >>= fun draws => .ok draws)) >>= fun σ28 => .ok σ28)
def Dr._law_draws (script : Scr) : Res (List Int) :=
  (let draws : (List Int) := ([] : (List Int))
  (rangeR 0 (min2 63 (lenL script.l))) >>= fun τ1 => (foldR (Dr._law_draws_l2 script) τ1 draws) >>= fun σ29 => .ok σ29)
def Dr._law_mix (draws : (List Int)) (k : Int) (many : Int) : Res Int :=
  (let cell : Int := 0
  (if (decide (0 < (lenL draws))) then ((modI k (lenL draws)) >>= fun τ2 => (getL draws τ2) >>= fun cell => .ok cell) else
  (.ok cell)) >>= fun σ3 => (if (decide (k < (lenL draws))) then ((modI σ3 many) >>= fun τ4 => .ok τ4) else
  ((mulI σ3 7919) >>= fun τ6 => (mulI k 104729) >>= fun τ7 => (fdivI (τ6 + τ7) 3) >>= fun τ8 => (modI τ8 many) >>= fun τ9 => .ok τ9)))
def DrawsOk (d : List Int) : Prop := ∀ x ∈ d, 0 ≤ x ∧ x < 65536
theorem draws_l1 {d : List Int} {r : Int} {ξ : Int} (h : DrawsOk d) (hl : d.length ≤ 1000000) : ∃ d2 r2, Dr._law_draws_l1 (d, r) ξ = .ok (d2, r2) ∧ DrawsOk d2 ∧ d2.length ≤ d.length + 1 := by
  unfold Dr._law_draws_l1
  by_cases c : 0 < r
  · have m := fmod_rng r (b := 65536) (by decide)
    simp only [decide_eq_true c, if_true, modI_ok (show (65536 : Int) ≠ 0 by decide), fdivI_ok (show (65536 : Int) ≠ 0 by decide) (by decide), Res.ok_bind, pushL, mkL_is (xs := d ++ [r.fmod 65536]) (by rw [List.length_append]; unfold lim; simp; omega)]
    refine ⟨_, _, rfl, ?_, by simp⟩
    intro x hx
    rcases List.mem_append.mp hx with hx | hx
    · exact h x hx
    · cases List.mem_singleton.mp hx; exact m
  · simp only [decide_eq_false c, Bool.false_eq_true, if_false, Res.ok_bind]
    exact ⟨_, _, rfl, h, by omega⟩
theorem draws_l2 {ns d : List Int} {k : Nat} (hk : k < ns.length) (h : DrawsOk d) (hl : d.length ≤ 100000) : ∃ d2, Dr._law_draws_l2 ⟨ns⟩ d (k : Int) = .ok d2 ∧ DrawsOk d2 ∧ d2.length ≤ d.length + 60 := by
  obtain ⟨v, e1, e2, _⟩ := getL_is (xs := ns) (i := (k : Int)) (by omega) (by omega)
  unfold Dr._law_draws_l2
  have hp : powI 10 18 = .ok 1000000000000000000 := rfl
  simp only [e2, Res.ok_bind, hp]
  by_cases c : 1000000000000000000 ≤ absI v
  · obtain ⟨⟨d2, r2⟩, e, h1, h2⟩ := foldR_invN (f := Dr._law_draws_l1) (I := fun n (z : List Int × Int) => DrawsOk z.1 ∧ z.1.length ≤ d.length + n) (xs := rangeL 0 60) (s := (d, absI v)) (n := 0) (fun j x hx s hs => by
      have hj : j < 60 := by
        have := (List.getElem?_eq_some_iff.mp hx).1
        rw [rangeL_length] at this
        exact this
      obtain ⟨d3, r3, e, h1, h2⟩ := draws_l1 (d := s.1) (r := s.2) (ξ := x) hs.1 (by have := hs.2; omega)
      exact ⟨(d3, r3), e, h1, by have := hs.2; show d3.length ≤ _; omega⟩) ⟨h, by simp⟩
    simp only [decide_eq_true c, if_true, rangeR_is (lo := 0) (hi := 60) (by decide) (by decide) (by decide) (by decide), Res.ok_bind, e]
    refine ⟨d2, rfl, h1, ?_⟩
    rw [rangeL_length] at h2
    simpa using h2
  · simp only [decide_eq_false c, Bool.false_eq_true, if_false, mulI_r (b := 48271) (by decide) (by decide), mulI_r (b := 69621) (by decide) (by decide), mulI_r (b := 16807) (by decide) (by decide), mulI_l (a := 11) (by decide) (by decide),
      modI_ok (show (2147483647 : Int) ≠ 0 by decide), modI_ok (show (2147483629 : Int) ≠ 0 by decide), modI_ok (show (65536 : Int) ≠ 0 by decide), modI_ok (show (32768 : Int) ≠ 0 by decide), fdivI_ok (show (65536 : Int) ≠ 0 by decide) (by decide), Res.ok_bind]
    generalize hs : ((((absI v * 48271 + ((k : Int) + 1) * 69621).fmod 2147483647) * 16807 + 11 * (k : Int) + 5).fmod 2147483629) = st
    simp only [pushL, mkL_is (xs := d ++ [st.fmod 65536]) (by rw [List.length_append]; unfold lim; simp; omega), Res.ok_bind, mkL_is (xs := d ++ [st.fmod 65536] ++ [(st.fdiv 65536).fmod 32768]) (by rw [List.length_append, List.length_append]; unfold lim; simp; omega)]
    refine ⟨_, rfl, ?_, by simp⟩
    intro x hx
    rcases List.mem_append.mp hx with hx | hx
    · rcases List.mem_append.mp hx with hx | hx
      · exact h x hx
      · cases List.mem_singleton.mp hx; exact fmod_rng _ (by decide)
    · cases List.mem_singleton.mp hx
      have := fmod_rng (st.fdiv 65536) (b := 32768) (by decide)
      omega
theorem draws_ok {ns : List Int} (hn : ns.length ≤ 63) : ∃ d, Dr._law_draws ⟨ns⟩ = .ok d ∧ DrawsOk d ∧ d.length ≤ 4000 := by
  unfold Dr._law_draws
  have hm : min2 63 (lenL ns) = ns.length := by
    unfold min2 lenL
    split <;> omega
  simp only [hm, rangeR_is (lo := 0) (hi := (ns.length : Int)) (by decide) (by decide) (by omega) (by omega), Res.ok_bind]
  obtain ⟨d, e, h1, h2⟩ := foldR_invN (f := Dr._law_draws_l2 ⟨ns⟩) (I := fun n (z : List Int) => DrawsOk z ∧ z.length ≤ 60 * n) (xs := rangeL 0 (ns.length : Int)) (s := []) (n := 0) (fun j x hx s hs => by
      have hj : j < ns.length := by
        have := (List.getElem?_eq_some_iff.mp hx).1
        rw [rangeL_length] at this
        omega
      have ex : x = (j : Int) := by
        rw [rangeL_get (by omega)] at hx
        cases hx; omega
      obtain ⟨d3, e, h1, h2⟩ := draws_l2 (ns := ns) (d := s) (k := j) hj hs.1 (by have := hs.2; omega)
      rw [ex]
      exact ⟨d3, e, h1, by have := hs.2; omega⟩) ⟨(fun _ h => nomatch h), by simp⟩
  rw [e]
  refine ⟨d, rfl, h1, ?_⟩
  rw [rangeL_length] at h2
  omega
theorem mix_ok {d : List Int} (k : Int) {many : Int} (hm : 0 < many) : ∃ r, Dr._law_mix d k many = .ok r ∧ 0 ≤ r ∧ r < many := by
  unfold Dr._law_mix
  have hm2 : many ≠ 0 := by omega
  have key : ∃ c, ((if decide (0 < lenL d) = true then (modI k (lenL d)) >>= fun τ2 => (getL d τ2) >>= fun cell => .ok cell else .ok 0) : Res Int) = .ok c := by
    by_cases c : 0 < lenL d
    · have z := fmod_rng k c
      obtain ⟨v, _, e2, _⟩ := getL_is (xs := d) z.1 z.2
      exact ⟨v, by rw [if_pos (decide_eq_true c), modI_ok (by omega)]; simp only [Res.ok_bind, e2]⟩
    · exact ⟨0, by rw [if_neg (by rw [decide_eq_false c]; decide)]⟩
  obtain ⟨c, e⟩ := key
  simp only [e, Res.ok_bind]
  by_cases c2 : k < lenL d
  · simp only [decide_eq_true c2, if_true, modI_ok hm2, Res.ok_bind]
    exact ⟨_, rfl, fmod_rng _ hm⟩
  · simp only [decide_eq_false c2, Bool.false_eq_true, if_false, modI_ok hm2, mulI_r (b := 7919) (by decide) (by decide), mulI_r (b := 104729) (by decide) (by decide), fdivI_ok (show (3 : Int) ≠ 0 by decide) (by decide), Res.ok_bind]
    exact ⟨_, rfl, fmod_rng _ hm⟩
end Vs
end
section
set_option Elab.async false
set_option linter.all false
set_option maxRecDepth 100000
set_option maxHeartbeats 1000000
/-! Vs19: orders that are total; what sorting gives. -/
namespace Vs
open Enc (toD)
open PySem PySem.Spec PyProof.Rows L2
class OrdT (α : Type) [Ord1 α] : Prop where
  irr : ∀ a : α, Ord1.lt a a = false
  tr : ∀ a b c : α, Ord1.lt a b = true → Ord1.lt b c = true → Ord1.lt a c = true
  tri : ∀ a b : α, Ord1.lt a b = false → Ord1.lt b a = false → a = b
instance : OrdT Int := ⟨fun a => decide_eq_false (Int.lt_irrefl a), fun a b c h1 h2 => decide_eq_true (Int.lt_trans (of_decide_eq_true h1) (of_decide_eq_true h2)), fun a b h1 h2 => by
  have h1 := of_decide_eq_false h1
  have h2 := of_decide_eq_false h2
  omega⟩
instance : OrdT Bool := ⟨by decide, by decide, by decide⟩
section
variable {α β γ δ : Type} [Ord1 α] [Ord1 β] [Ord1 γ] [Ord1 δ] [DecidableEq α] [DecidableEq β] [DecidableEq γ] [DecidableEq δ]
theorem OrdT.asym [OrdT α] {a b : α} (h : Ord1.lt a b = true) : Ord1.lt b a = false := by
  cases e : Ord1.lt b a with
  | false => rfl
  | true => have := OrdT.tr a b a h e; rw [OrdT.irr] at this; cases this
theorem OrdT.ne [OrdT α] {a b : α} (h : Ord1.lt a b = true) : a ≠ b := fun e => by rw [e, OrdT.irr] at h; cases h
theorem ltRow_irr [OrdT α] : ∀ xs : List α, ltRow xs xs = false
  | [] => rfl
  | x :: xs => by unfold ltRow; rw [if_pos rfl]; exact ltRow_irr xs
theorem ltRow_tr [OrdT α] : ∀ xs ys zs : List α, ltRow xs ys = true → ltRow ys zs = true → ltRow xs zs = true
  | [], [], _, h, _ => by cases h
  | [], _ :: _, [], _, h => by cases h
  | [], _ :: _, _ :: _, _, _ => rfl
  | _ :: _, [], _, h, _ => by cases h
  | _ :: _, _ :: _, [], _, h => by cases h
  | x :: xs, y :: ys, z :: zs, h1, h2 => by
    unfold ltRow at h1 h2 ⊢
    by_cases e1 : x = y
    · subst e1
      rw [if_pos rfl] at h1
      by_cases e2 : x = z
      · rw [if_pos e2] at h2 ⊢; exact ltRow_tr xs ys zs h1 h2
      · rw [if_neg e2] at h2 ⊢; exact h2
    · rw [if_neg e1] at h1
      by_cases e2 : y = z
      · subst e2; rw [if_neg e1]; exact h1
      · rw [if_neg e2] at h2
        have h3 := OrdT.tr _ _ _ h1 h2
        rw [if_neg (OrdT.ne h3)]; exact h3
theorem ltRow_tri [OrdT α] : ∀ xs ys : List α, ltRow xs ys = false → ltRow ys xs = false → xs = ys
  | [], [], _, _ => rfl
  | [], _ :: _, h, _ => by cases h
  | _ :: _, [], _, h => by cases h
  | x :: xs, y :: ys, h1, h2 => by
    unfold ltRow at h1 h2
    by_cases e : x = y
    · subst e
      rw [if_pos rfl] at h1 h2
      rw [ltRow_tri xs ys h1 h2]
    · rw [if_neg e] at h1
      rw [if_neg (Ne.symm e)] at h2
      exact absurd (OrdT.tri _ _ h1 h2) e
instance [OrdT α] : OrdT (List α) := ⟨ltRow_irr, ltRow_tr, ltRow_tri⟩
instance [OrdT α] : OrdT (Tup α) := ⟨fun a => ltRow_irr a.l, fun a b c => ltRow_tr a.l b.l c.l, fun a b h1 h2 => by
  have := ltRow_tri a.l b.l h1 h2
  cases a; cases b; exact congrArg Tup.mk this⟩
theorem pair_lt_iff {a b : α × β} : Ord1.lt a b = (if a.1 = b.1 then Ord1.lt a.2 b.2 else Ord1.lt a.1 b.1) := rfl
instance [OrdT α] [OrdT β] : OrdT (α × β) := ⟨fun a => by rw [pair_lt_iff, if_pos rfl]; exact OrdT.irr _, fun a b c h1 h2 => by
  rw [pair_lt_iff] at h1 h2 ⊢
  by_cases e1 : a.1 = b.1
  · rw [if_pos e1] at h1
    by_cases e2 : b.1 = c.1
    · rw [if_pos e2] at h2; rw [if_pos (e1.trans e2)]; exact OrdT.tr _ _ _ h1 h2
    · rw [if_neg e2] at h2; rw [if_neg (by rw [e1]; exact e2), e1]; exact h2
  · rw [if_neg e1] at h1
    by_cases e2 : b.1 = c.1
    · rw [if_neg (by rw [← e2]; exact e1), ← e2]; exact h1
    · rw [if_neg e2] at h2
      have h3 := OrdT.tr _ _ _ h1 h2
      rw [if_neg (OrdT.ne h3)]; exact h3, fun a b h1 h2 => by
  rw [pair_lt_iff] at h1 h2
  by_cases e : a.1 = b.1
  · rw [if_pos e] at h1
    rw [if_pos e.symm] at h2
    exact Prod.ext e (OrdT.tri _ _ h1 h2)
  · rw [if_neg e] at h1
    rw [if_neg (Ne.symm e)] at h2
    exact absurd (OrdT.tri _ _ h1 h2) e⟩
instance [OrdT α] [OrdT β] [OrdT γ] : OrdT (T3 α β γ) := by
  have q : ∀ a b : T3 α β γ, Ord1.lt a b = Ord1.lt (a.a, (a.b, a.c)) (b.a, (b.b, b.c)) := fun a b => rfl
  refine ⟨fun a => by rw [q]; exact OrdT.irr _, fun a b c h1 h2 => by rw [q] at h1 h2 ⊢; exact OrdT.tr _ _ _ h1 h2, fun a b h1 h2 => ?_⟩
  rw [q] at h1 h2
  have := OrdT.tri _ _ h1 h2
  cases a; cases b; simp only [Prod.mk.injEq] at this; obtain ⟨rfl, rfl, rfl⟩ := this; rfl
instance [OrdT α] [OrdT β] [OrdT γ] [OrdT δ] : OrdT (T4 α β γ δ) := by
  have q : ∀ a b : T4 α β γ δ, Ord1.lt a b = Ord1.lt (a.a, (a.b, (a.c, a.d))) (b.a, (b.b, (b.c, b.d))) := fun a b => rfl
  refine ⟨fun a => by rw [q]; exact OrdT.irr _, fun a b c h1 h2 => by rw [q] at h1 h2 ⊢; exact OrdT.tr _ _ _ h1 h2, fun a b h1 h2 => ?_⟩
  rw [q] at h1 h2
  have := OrdT.tri _ _ h1 h2
  cases a; cases b; simp only [Prod.mk.injEq] at this; obtain ⟨rfl, rfl, rfl, rfl⟩ := this; rfl
/-! ### sorting -/
theorem le_tr [OrdT α] {a b c : α} (h1 : Ord1.lt b a = false) (h2 : Ord1.lt c b = false) : Ord1.lt c a = false := by
  cases e : Ord1.lt c a with
  | false => rfl
  | true =>
    cases e2 : Ord1.lt a b with
    | true => rw [OrdT.tr _ _ _ e e2] at h2; cases h2
    | false => rw [OrdT.tri _ _ e2 h1] at e; rw [e] at h2; cases h2
theorem sortP_le [OrdT α] (xs : List α) : (sortP xs).Pairwise fun a b => Ord1.lt b a = false := by
  unfold sortP
  refine (List.pairwise_mergeSort (le := fun a b => !Ord1.lt b a) (fun a b c h1 h2 => ?_) (fun a b => ?_) xs).imp fun h => by simpa using h
  · simp only [Bool.not_eq_true'] at *; exact le_tr h1 h2
  · cases e : Ord1.lt b a with
    | false => simp
    | true => simp [OrdT.asym e]
theorem sortP_uniq [OrdT α] {xs ys : List α} (h : ys.Pairwise fun a b => Ord1.lt b a = false) (p : ys.Perm xs) : sortP xs = ys :=
  List.Perm.eq_of_pairwise (le := fun a b => Ord1.lt b a = false) (fun a b _ _ h1 h2 => OrdT.tri _ _ h2 h1) (sortP_le xs) h ((List.mergeSort_perm _ _).trans p.symm)
theorem sortP_congr [OrdT α] {xs ys : List α} (p : xs.Perm ys) : sortP xs = sortP ys := sortP_uniq (sortP_le ys) ((List.mergeSort_perm _ _).trans p.symm)
theorem mem_sortP {xs : List α} {x : α} : x ∈ sortP xs ↔ x ∈ xs := (List.mergeSort_perm _ _).mem_iff
theorem sortP_len (xs : List α) : (sortP xs).length = xs.length := (List.mergeSort_perm _ _).length_eq
theorem mem_sortS {xs : List α} {x : α} : x ∈ sortS xs ↔ x ∈ xs := mem_sortP.trans mem_dedup
theorem sortS_lt' [OrdT α] (xs : List α) : (sortS xs).Pairwise fun a b => Ord1.lt a b = true := by
  have n : (sortS xs).Nodup := (List.mergeSort_perm _ _).nodup_iff.mpr (nodup_dedup xs)
  refine (List.Pairwise.and (sortP_le (dedup xs)) n).imp fun {a b} h => ?_
  cases e : Ord1.lt a b with
  | true => rfl
  | false => exact absurd (OrdT.tri _ _ e h.1) h.2
theorem nodup_of_lt [OrdT α] {xs : List α} (h : xs.Pairwise fun a b => Ord1.lt a b = true) : xs.Nodup := h.imp fun h => OrdT.ne h
/-- rows that rise, of the same members -/
theorem rise_uniq [OrdT α] {xs ys : List α} (h1 : xs.Pairwise fun a b => Ord1.lt a b = true) (h2 : ys.Pairwise fun a b => Ord1.lt a b = true) (h : ∀ k, k ∈ xs ↔ k ∈ ys) : xs = ys :=
  List.Perm.eq_of_pairwise (le := fun a b => Ord1.lt a b = true) (fun a b _ _ h1 h2 => by rw [OrdT.asym h1] at h2; cases h2) h1 h2 ((List.perm_ext_iff_of_nodup (nodup_of_lt h1) (nodup_of_lt h2)).mpr h)
theorem sortS_uniq [OrdT α] {xs ys : List α} (h : ys.Pairwise fun a b => Ord1.lt a b = true) (hm : ∀ k, k ∈ xs ↔ k ∈ ys) : sortS xs = ys := rise_uniq (sortS_lt' xs) h fun k => mem_sortS.trans (hm k)
theorem sortS_congr [OrdT α] {xs ys : List α} (hm : ∀ k, k ∈ xs ↔ k ∈ ys) : sortS xs = sortS ys := sortS_uniq (sortS_lt' ys) fun k => (hm k).trans mem_sortS.symm
theorem dedup_len_congr {xs ys : List α} (hm : ∀ k, k ∈ xs ↔ k ∈ ys) : (dedup xs).length = (dedup ys).length :=
  ((List.perm_ext_iff_of_nodup (nodup_dedup xs) (nodup_dedup ys)).mpr fun k => mem_dedup.trans ((hm k).trans mem_dedup.symm)).length_eq
theorem sortS_len (xs : List α) : (sortS xs).length = (dedup xs).length := sortP_len _
end
end Vs
end
section
set_option Elab.async false
set_option linter.all false
set_option maxRecDepth 100000
set_option maxHeartbeats 2000000
/-! Vs20: set comprehensions; sets of tuples of ints. -/
namespace Vs
open Enc (toD)
open PySem PySem.Spec PyProof.Rows L2
/-- a new, empty set -/
abbrev set0 (w : World) : Obj := { cls := .type "set", dict := none, data := .set #[] 0 (.fresh 0 0 (!w.params.followText "set-order")) }
/-- how sets of one kind of things are tracked -/
structure SKd (P : Program) (w : World) where
  κ : Type
  ι : Type
  ob : Addr → κ → HO
  z : κ
  fresh : ∀ (H : Hp) (h : Heap), ObjOk P w H (h.push (set0 w)) h.objs.size (ob h.objs.size z)
  pre : PySem.W.Frag → V → Hp → κ → ι → Prop
  nx : V → κ → ι → κ → Prop
  add : ∀ {X : Cx} {pins : List (Addr × Obj)} {σ : St} {H : Hp} {s : Shared} {D : Addr} {k : κ} {i : ι} {v : V} {u : Value} {E : Value → Shared → Prop} {Q : Value → Shared → Prop}, X.prog = P → X.w = w → X.calm = true → X.A.units + 64 < cLine → Inv X pins σ H s → H D = some (ob D k) → RelV v u → pre X.K v H k i →
    (∀ k' s', nx v k i k' → Inv X pins σ (upd H D (ob D k')) s' → Q .none s') → wpAny (model X.prog X.w) X.A (call (.builtin "set.add") [.ref D, u]) Q E s
section
variable {X : Cx}
/-- {elt for target in iter if ..}: D the new set -/
def tScG {P : Program} {w : World} (K : PySem.W.Frag) (S : SKd P w) (wi : TI) (g : TG) (tt : TT) (te : TE) (vs : List Nat) : TE := fun σ H Q => wi σ H fun J H1 => ∀ D, H1 D = none → ∃ W : Nat → Nat → Hp → Prop, (∃ m, W 0 m (upd H1 D (S.ob D S.z))) ∧ ∀ i m H, W i m H →
  (J.stop i H ∧ Q (.ref D) H) ∨ (J.go i H ∧ ∃ Nx : Hp → Prop, (∀ H', Nx H' → ∃ m', m' < m ∧ W (i + 1) m' H') ∧ ∀ x H', J.yld i H x H' → g x (wipe σ vs) H' fun σ2 H2 => wipe σ2 vs = wipe σ vs ∧ tt σ2 H2 fun b H3 =>
    if b = true then te σ2 H3 fun y H4 => ∃ k i, H4 D = some (S.ob D k) ∧ S.pre K y H4 k i ∧ ∀ k', S.nx y k i k' → Nx (upd H4 D (S.ob D k')) else Nx H3)
theorem scG_core (S : SKd X.prog X.w) {pins : List (Addr × Obj)} {s : Shared} {σ : L2.St} {H : Hp} {Q : VK} {elt tg iter : Expr} {ifs : List Expr} {scope : Scope} {own : List (PySem.Str × Nat)} {pos pos' : Pos} {wi : TI} {g : TG} {tt : TT} {te : TE} {use : Option (Value → Sem Unit)} {Qf : Value → Shared → Prop}
    (hc : X.calm = true) (hu : X.A.units + 64 < cLine) (hN : X.N.Nodup) (I : Inv X pins σ H s) (hi : PI X tg iter wi) (ok : BlkOk X.N X.env.scope scope own)
    (hg : ∀ (s : Shared) (H : Hp) (C : Addr) (cl : List (PySem.Str × Addr)) (fp : List Addr), PG (X.blk s H scope (compEnvC scope cl C X.env) fp) tg g) (ht : ∀ (s : Shared) (H : Hp) (C : Addr) (cl : List (PySem.Str × Addr)) (fp : List Addr), PTs (X.blk s H scope (compEnvC scope cl C X.env) fp) ifs tt)
    (he : ∀ (s : Shared) (H : Hp) (C : Addr) (cl : List (PySem.Str × Addr)) (fp : List Addr), PE (X.blk s H scope (compEnvC scope cl C X.env) fp) elt te) (hs : ∀ x, foldedSetIterable iter X.env x = pure x)
    (h : tScG X.K S wi g tt te (own.map (·.2)) σ H Q)
    (hRR : ∀ D C s' m H', Inv X pins σ H' s' → Q (.ref D) H' → s'.heap.Ns C m → FpOk X pins H' C → compPost (model X.prog X.w) X.A X.xe use Qf (.ref D) C (.ok .next) s') :
    wpAny (model X.prog X.w) X.A (comprehension (.SetComp elt [⟨tg, iter, ifs, 0⟩] scope pos) scope X.env pos' (newSet (.type "set")) false (eval iter X.env) use) Qf X.xe s := by
  have free : ∀ y ∈ scope.names, y.2 = .free → ∃ c, X.env.cells.lookup y.1 = some c := fun y hy e =>
    (ok.free y hy e).elim (fun k => I.ok.has _ (.inl k)) fun k => I.ok.has _ (.inr k)
  refine wpAny_comprehension_free (use := use) rfl hs (closure_ok free) ok.kind (fun y hy e => by rw [ok.uniq y hy, e]) (thn (hi.run pins s σ H _ I h) fun xv s1 hx => thn hx fun itv s2 h2 => ?_)
  obtain ⟨it, fp, tn, J, H2, rfl, I2, T, st2, f2, q⟩ := h2
  refine PpSet.newSet_ok (newEnv_comp ?_)
  have hDn : H2 s2.heap.objs.size = none := I2.hok.fresh (Nat.le_refl _)
  obtain ⟨W, ⟨m0, w0⟩, turn⟩ := q s2.heap.objs.size hDn
  have I3 : Inv X pins σ (upd H2 s2.heap.objs.size (S.ob s2.heap.objs.size S.z)) { s2 with heap := s2.heap.push (set0 X.w) } :=
    I2.laid (t' := s2.toks) (fun b o e => Heap.get?_push_of_some _ e) (Nat.le_refl _) (S.fresh _ _)
  have old : ∀ b o, s2.heap.get? b = some o → (s2.heap.push (set0 X.w)).get? b = some o := fun b o e => Heap.get?_push_of_some _ e
  have dsz : (s2.heap.push (set0 X.w)).objs.size = s2.heap.objs.size + 1 := Heap.size_push _ _
  have sz : ∀ b ∈ fp, b < s2.heap.objs.size := fun b hb => by
    obtain ⟨o, e, _⟩ := T.obj _ _ st2 b hb
    exact Heap.lt_size e
  have f3 : ∀ b ∈ fp, FpOk X pins (upd H2 s2.heap.objs.size (S.ob s2.heap.objs.size S.z)) b ∧ b < (s2.heap.push (set0 X.w)).objs.size := fun b hb =>
    ⟨⟨by rw [upd_ne (Nat.ne_of_lt (sz b hb))]; exact (f2 b hb).1, (f2 b hb).2⟩, by rw [dsz]; exact Nat.lt_succ_of_lt (sz b hb)⟩
  generalize s2.heap.objs.size = D at *
  generalize hs3 : ({ s2 with heap := s2.heap.push (set0 X.w) } : Shared) = s3 at *
  have h3 : s3.heap = s2.heap.push (set0 X.w) := by rw [← hs3]
  have st3 : tn 0 s3.heap := T.keep _ _ _ st2 fun b _ o e => by rw [h3]; exact old b o e
  rw [← h3] at f3
  have I4 := block_start I3 ok hN f3
  generalize hH3 : upd H2 D (S.ob D S.z) = H3 at *
  have pg := hg s3 H3 s3.heap.objs.size (cellsFrom (s3.heap.objs.size + 1) scope.names (cloFrom X.env.cells scope.names [])) fp
  have pt := ht s3 H3 s3.heap.objs.size (cellsFrom (s3.heap.objs.size + 1) scope.names (cloFrom X.env.cells scope.names [])) fp
  have pe := he s3 H3 s3.heap.objs.size (cellsFrom (s3.heap.objs.size + 1) scope.names (cloFrom X.env.cells scope.names [])) fp
  show codeAny _ _ (.compStart (.SetComp elt [⟨tg, iter, ifs, 0⟩] scope pos) 0 (.ref it) (.ref D) (compEnvC scope (cellsFrom (s3.heap.objs.size + 1) scope.names (cloFrom X.env.cells scope.names [])) s3.heap.objs.size X.env)) (compPost (model X.prog X.w) X.A X.xe use Qf (.ref D) s3.heap.objs.size) { s3 with heap := pushCells (s3.heap.push { cls := .type "dict", data := .dict #[] }) scope.names }
  have nfp : ∀ b ∈ fp, H3 b = none := fun b hb => (f3 b hb).1.1
  generalize hce : compEnvC scope (cellsFrom (s3.heap.objs.size + 1) scope.names (cloFrom X.env.cells scope.names [])) s3.heap.objs.size X.env = ce at *
  have cL : ce.locals = s3.heap.objs.size := by subst hce; rfl
  generalize hs4 : ({ s3 with heap := pushCells (s3.heap.push { cls := .type "dict", data := .dict #[] }) scope.names } : Shared) = s4 at *
  have st4 : tn 0 s4.heap := T.keep _ _ _ st3 fun b _ o e => by rw [← hs4]; exact pushCells_keeps _ _ _ _ (Heap.get?_push_of_some _ e)
  have stat : ∀ {σ' : L2.St} {H' : Hp} {s' : Shared}, Inv (X.blk s3 H3 scope ce fp) [] σ' H' s' → (∀ b ∈ fp, H' b = none) → ∀ b ∈ fp, FpOk (X.blk s3 H3 scope ce fp) [] H' b := fun {σ' H' s'} I' hn b hb =>
    ⟨hn b hb, (I'.ok.exf b hb).1, I'.ok.exfs b hb, .inl hb, fun x c e => (I'.ok.exf b hb).2 x c e, fun p hp => absurd (show p ∈ ([] : List (Addr × Obj)) ++ [] from hp) (by simp)⟩
  refine PpSet.codeAny_compStart_set ?lp (T.self X.A 0 _ _ _ st4 ?lp)
  refine PpSet.compLoopS_any (fun n s' => ∃ i H', Inv (X.blk s3 H3 scope ce fp) [] (wipe σ (own.map (·.2))) H' s' ∧ tn i s'.heap ∧ (∀ b ∈ fp, H' b = none) ∧ W i n H') ?_ m0 ⟨0, H3, I4, st4, nfp, w0⟩
  rintro n s5 ⟨i, H5, I5, st5, n5, w5⟩
  rcases turn i n H5 w5 with ⟨stop, qq⟩ | ⟨go, Nx, hNx, step⟩
  · refine thnF (T.done (X.blk s3 H3 scope ce fp) rfl rfl rfl hc i [] s5 _ H5 (fun _ _ => False) I5 (stat I5 n5) st5 stop) fun r s6 ⟨hr, I6⟩ => ?_
    subst hr
    have I7 : Inv X pins σ H5 s6 := I3.call' (ch := fp) I6.os I6.base I6.hok I6.bare fun b hb => ⟨(f3 b hb).1.2.2.2.1, (f3 b hb).1.2.1, (f3 b hb).1.2.2.2.2.1, (f3 b hb).1.2.2.2.2.2⟩
    have nC : H5 s3.heap.objs.size = none := by rw [← cL]; exact I6.free
    obtain ⟨m, hn, _⟩ := I6.loc
    have hn : s6.heap.Ns ce.locals m := hn
    rw [cL] at hn
    exact hRR D s3.heap.objs.size s6 m H5 I7 qq hn (I3.fpOk (Nat.le_refl _) nC)
  · refine thnF (T.item (X.blk s3 H3 scope ce fp) rfl rfl rfl hc i [] s5 _ H5 (fun _ _ => False) I5 (stat I5 n5) st5 go) fun r s6 ⟨u, hr, h6⟩ => ?_
    subst hr
    refine thnF h6 fun _ s7 ⟨x, H7, I7, r7, y7, st7, n7⟩ => ?_
    have I7' := I7.pinned (stat I7 n7) (T.obj _ _ st7)
    refine thnF (pg.run _ s7 _ H7 x u _ I7' r7 (step x H7 y7)) fun _ s8 ⟨σ8, H8, I8, hw8, q8⟩ => ?_
    refine thnF (pt.run _ s8 σ8 H8 _ I8 q8) fun b s9 ⟨H9, I9, q9⟩ => ?_
    have fin : ∀ {s' : Shared} {H' : Hp}, Inv (X.blk s3 H3 scope ce fp) ([] ++ pinsAt fp s7.heap) σ8 H' s' → Nx H' → ∃ m, m < n ∧ ∃ i H', Inv (X.blk s3 H3 scope ce fp) [] (wipe σ (own.map (·.2))) H' s' ∧ tn i s'.heap ∧ (∀ b ∈ fp, H' b = none) ∧ W i m H' := fun {s' H'} I' nx => by
      obtain ⟨m', hm, w'⟩ := hNx H' nx
      have pin' : ∀ b ∈ fp, ∀ o, s7.heap.get? b = some o → s'.heap.get? b = some o ∧ H' b = none := fun b hb o e =>
        let z := I'.pin (b, o) (List.mem_append_right _ (List.mem_append_right _ (mem_pinsAt hb e)))
        ⟨z.1, z.2.1⟩
      have hl : (wipe σ (own.map (·.2))).length = σ8.length := by rw [← hw8, wipe_length]
      refine ⟨m', hm, i + 1, H', (I'.unpinned (pins := [])).weak hl (fun j v e => ?_), T.keep _ _ _ st7 fun b hb o e => (pin' b hb o e).1, fun b hb => ?_, w'⟩
      · rw [← hw8] at e
        exact (wipe_some e).1
      · obtain ⟨o, e, _⟩ := T.obj _ _ st7 b hb
        exact (pin' b hb o e).2
    cases b with
    | false =>
      simp only [Bool.false_eq_true, if_false] at q9 ⊢
      exact fin I9 q9
    | true =>
      simp only [if_true] at q9 ⊢
      refine thnF (pe.run _ s9 σ8 H9 _ I9 q9) fun z s10 ⟨yv, H10, I10, r10, k0, i0, hD10, hp10, nx⟩ => ?_
      exact S.add (X := X.blk s3 H3 scope ce fp) rfl rfl hc hu I10 hD10 r10 hp10 fun k' s11 n11 I11 => fin I11 (nx k' n11)
theorem pe_scG (S : SKd X.prog X.w) {elt tg iter : Expr} {ifs : List Expr} {scope : Scope} {own : List (PySem.Str × Nat)} {pos : Pos} {wi : TI} {g : TG} {tt : TT} {te : TE} (hc : X.calm = true) (hu : X.A.units + 64 < cLine) (hN : X.N.Nodup) (hi : PI X tg iter wi) (ok : BlkOk X.N X.env.scope scope own)
    (hg : ∀ (s : Shared) (H : Hp) (C : Addr) (cl : List (PySem.Str × Addr)) (fp : List Addr), PG (X.blk s H scope (compEnvC scope cl C X.env) fp) tg g) (ht : ∀ (s : Shared) (H : Hp) (C : Addr) (cl : List (PySem.Str × Addr)) (fp : List Addr), PTs (X.blk s H scope (compEnvC scope cl C X.env) fp) ifs tt)
    (he : ∀ (s : Shared) (H : Hp) (C : Addr) (cl : List (PySem.Str × Addr)) (fp : List Addr), PE (X.blk s H scope (compEnvC scope cl C X.env) fp) elt te) (hs : ∀ x, foldedSetIterable iter X.env x = pure x := by intro _; rfl) :
    PE X (.SetComp elt [⟨tg, iter, ifs, 0⟩] scope pos) (tScG X.K S wi g tt te (own.map (·.2))) :=
  ⟨fun pins s σ H Q I h => by
    rw [PpSet.eval_SetComp]
    refine scG_core S hc hu hN I hi ok hg ht he hs h fun D C s' m H' I' q hn ⟨f0, f1, f2, f3, f4, f5⟩ => ⟨m, hn, fun h'' sb => ?_⟩
    exact ⟨.ref D, H', I'.turned (t' := s'.toks) (fun b o hb e => (sb.2 b hb).trans e) f0 f1 f3 f4 f5, rfl, q⟩⟩
end
end Vs
end
section
set_option Elab.async false
set_option linter.all false
set_option maxRecDepth 100000
set_option maxHeartbeats 2000000
/-! Vs21: set comprehensions read; sets of ints, of tuples of ints: made, sorted, their length. -/
namespace Vs
open Enc (toD)
open PySem PySem.Spec PyProof.Rows L2
/-- the members told as data -/
structure SRel {P : Program} {w : World} (S : SKd P w) (K : PySem.W.Frag) (β : Type) [Enc β] where
  R : Hp → S.κ → List β → Prop
  bd : Nat
  nt : ∀ D k, NTup (some (S.ob D k))
  z : ∀ F, R F S.z []
  mono : ∀ {F F' k xs}, Sub F F' → R F k xs → R F' k xs
  step : ∀ {F H : Hp} {k : S.κ} {acc : List β} {v : V} {x : β}, Sub F H → R F k acc → acc.length < bd → Rp K F v (toD x) → ∃ i, S.pre K v H k i ∧ ∀ k', S.nx v k i k' → R F k' (acc ++ [x])
def bdL {β : Type} (n : Nat) (xs : List β) : Res (List β) := if xs.length ≤ n then .ok xs else .stuck
section
variable {P : Program} {w : World} {S : SKd P w} {K : PySem.W.Frag} {β : Type} [Enc β]
def PostSt (T : SRel S K β) (W : WX) (F H : Hp) (m : Res (List β)) (Q : VK) : Prop := match m with
  | .ok xs => ∀ a F' H' k, Grow F H F' H' → F' a = none → H a = none → H' a = some (S.ob a k) → T.R F' k xs → Q (.ref a) H'
  | .exc c i => ∀ dx F' H' σ', Grow F H F' H' → XdAt H' dx i → H dx = none → W (cv K c) (some dx) σ' H'
  | .stuck => False
def rdSt (T : SRel S K β) (n : Nat) (W : WX) (ρ : Rs) (m : Res (List β)) : TE := fun σ H Q => ∃ F0 H0 F, Rho K n F0 H0 F H σ ρ ∧ PostSt T W F H m Q
/-- what holds of a turn: acc is in the new set D -/
structure ScW (T : SRel S K β) (n : Nat) (F0 H0 F1 : Hp) (σ : St) (ρ1 : Rs) (D : Addr) (F H : Hp) (acc : List β) : Prop where
  R : Rho K n F0 H0 F H σ ρ1
  sf : Sub F1 F
  zf : F D = none
  z0 : H0 D = none
  no : ∀ j e, (j, SV.ow e) ∈ ρ1 → σ[j]? ≠ some (some (.ref D))
  ob : ∃ k, H D = some (S.ob D k) ∧ T.R F k acc
theorem sc_read {α : Type} [Enc α] {ρ : Rs} {W : WX} (T : SRel S K β) {n : Nat} {tg : Expr} {is : List Nat} {ρ1 : Rs} {ρb : α → Rs} {mi : Res (List α)} {mt : α → Res Bool} {me : α → Res β} {vs : List Nat} {σ : St} {H : Hp} {Q : VK}
    (his : ∀ j ∈ is, j ∈ vs) (w1 : ∀ p ∈ ρ1, p ∈ ρ ∧ p.1 ∉ vs) (h : rdSt T n W ρ (do
    let xs ← mi
    let ys ← lcR mt me xs
    bdL T.bd ys) σ H Q) :
    tScG K S (rdI K n W ρ (mi.map fun xs => xs.map toD)) (fun v σ H Q => ∃ x, rdG K n is ρ1 (toD x) (ρb x) v σ H Q) (fun σ H Q => ∃ x, rdT K n W0 (ρb x) (mt x) σ H Q) (fun σ H Q => ∃ x, rdV K n W0 (ρb x) ((me x).map toD) σ H Q) vs σ H Q := by
  obtain ⟨F0, H0, F, R, p⟩ := h
  refine ⟨F0, H0, F, R, ?_⟩
  cases mi with
  | exc c i => exact p
  | stuck => exact p
  | ok xs =>
    intro J F1 H1 g it hz D nD
    have p1 : PostSt T W F H (lcR mt me xs >>= bdL T.bd) Q := p
    cases el : lcR mt me xs with
    | exc c i => exact absurd el lcR_no
    | stuck => rw [el] at p1; exact p1.elim
    | ok out =>
      rw [el, Res.ok_bind] at p1
      unfold bdL at p1
      by_cases hb : out.length ≤ T.bd
      · rw [if_pos hb] at p1
        have R1 : Rho K n F0 H0 F1 H1 (wipe σ vs) ρ1 := (R.grow g).wipe w1
        have z0 : H0 D = none := sub_free R.base.h (sub_free g.h nD)
        refine ⟨fun i m H' => ∃ F' acc zs, m = xs.length - i ∧ i ≤ xs.length ∧ ScW T n F0 H0 F1 (wipe σ vs) ρ1 D F' H' acc ∧ lcR mt me (xs.drop i) = .ok zs ∧ acc ++ zs = out ∧ Grow F H F' H',
          ⟨xs.length, F1, [], out, by simp, Nat.zero_le _, ⟨R1.grow (.own R1.fh nD), fun _ _ e => e, sub_free R1.fh nD, z0, fun j e m q => ?_, S.z, upd_same, T.z _⟩, el, rfl, g.trans (.own g.fh nD)⟩, ?_⟩
        · obtain ⟨a, e1, c1, _⟩ := R1.ow j e m
          rw [q] at e1; cases e1
          exact c1.there nD
        · rintro i m H2 ⟨F2, acc, zs, rfl, hi2, L, e2, eo, g2⟩
          by_cases hlt : i < xs.length
          · have ex : xs[i]? = some xs[i] := List.getElem?_eq_getElem hlt
            rw [drop_cons ex, lcR_cons] at e2
            obtain ⟨b, eb, e2⟩ := Res.eq_ok_of_bind e2
            refine .inr ⟨it.go i F2 H2 L.sf L.R.fh (by simpa using hlt), fun H' => ∃ F' acc zs, ScW T n F0 H0 F1 (wipe σ vs) ρ1 D F' H' acc ∧ lcR mt me (xs.drop (i + 1)) = .ok zs ∧ acc ++ zs = out ∧ Grow F H F' H',
              fun H' ⟨F', acc', zs', L', e', eo', g'⟩ => ⟨xs.length - (i + 1), by omega, F', acc', zs', rfl, hlt, L', e', eo', g'⟩, fun v H3 y => ?_⟩
            obtain ⟨F3, g3, r3⟩ := it.yld i F2 H2 (toD xs[i]) v H3 L.sf L.R.fh (by rw [List.getElem?_map, ex]; rfl) y
            refine ⟨xs[i], F0, H0, F3, L.R.grow g3, r3, fun σ4 R4 k4 => ⟨?_, xs[i], F0, H0, F3, R4, ?_⟩⟩
            · rw [wipe_eq (σ := wipe σ vs) (by rw [R4.len, L.R.len]) fun j hj => k4 j fun hm => hj (his j hm)]
              exact wipe_eq (by rw [wipe_length]) fun j hj => by rw [wipe_at, if_neg hj]
            · have keep : ∀ {F4 H4 : Hp}, Grow F2 H2 F4 H4 → ScW T n F0 H0 F1 (wipe σ vs) ρ1 D F4 H4 acc := fun {F4 H4} g4 => by
                obtain ⟨k, e1, rw1⟩ := L.ob
                exact ⟨L.R.grow g4, L.sf.trans g4.f, by rw [g4.fn D (by rw [e1]; exact T.nt D k)]; exact L.zf, z0, L.no, k, g4.h _ _ e1, T.mono g4.f rw1⟩
              cases et : mt xs[i] with
              | exc c i => rw [et] at eb; cases eb
              | stuck => rw [et] at eb; cases eb
              | ok b' =>
                rw [et] at eb
                cases eb
                intro F4 H4 g4
                cases b with
                | false => exact ⟨F4, acc, zs, keep (g3.trans g4), e2, eo, g2.trans (g3.trans g4)⟩
                | true =>
                  simp only [if_true] at e2
                  obtain ⟨y', ey, e2⟩ := Res.eq_ok_of_bind e2
                  obtain ⟨zs', ez, e2⟩ := Res.eq_ok_of_bind e2
                  cases e2
                  refine ⟨xs[i], F0, H0, F4, R4.grow g4, ?_⟩
                  cases em : me xs[i] with
                  | exc c i => rw [em] at ey; cases ey
                  | stuck => rw [em] at ey; cases ey
                  | ok y'' =>
                    rw [em] at ey
                    cases ey
                    intro u F5 H5 g5 r5
                    have L5 := keep ((g3.trans g4).trans g5)
                    obtain ⟨k, e1, rk⟩ := L5.ob
                    have hacc : acc.length < T.bd := by rw [← eo, List.length_append, List.length_cons] at hb; omega
                    obtain ⟨i0, hp, hx⟩ := T.step L5.R.fh rk hacc r5
                    refine ⟨k, i0, e1, hp, fun k' hk' => ⟨F5, acc ++ [y'], zs', ⟨⟨L5.R.len, ⟨L5.R.base.f, fun b o q => ?_, fun b o q => ?_, L5.R.base.fn⟩, L5.R.sh, fun j d m => ?_, L5.R.inj⟩, L5.sf, L5.zf, z0, L5.no, k', upd_same, hx k' hk'⟩, ez, by rw [List.append_assoc]; exact eo, ?_⟩⟩
                    · rw [upd_ne (ne_of_none q z0)]; exact L5.R.base.h b o q
                    · rw [upd_ne (ne_of_none q L5.zf)]; exact L5.R.fh b o q
                    · obtain ⟨a, e6, c6, z6⟩ := L5.R.ow j d m
                      have hne : a ≠ D := fun q => L5.no j d m (by rw [e6, q])
                      exact ⟨a, e6, ⟨c6.1, by rw [upd_ne hne]; exact c6.2⟩, z6⟩
                    · have g6 := g2.trans ((g3.trans g4).trans g5)
                      have hD : H D = none := sub_free g.h nD
                      exact ⟨g6.f, fun b o q => by rw [upd_ne (ne_of_none q hD)]; exact g6.h b o q, fun b o q => by rw [upd_ne (ne_of_none q L5.zf)]; exact g6.fh b o q, g6.fn⟩
          · have e : i = xs.length := by omega
            subst e
            rw [List.drop_length] at e2
            cases e2
            rw [List.append_nil] at eo
            subst eo
            obtain ⟨k, e1, rk⟩ := L.ob
            exact .inl ⟨it.stop _ F2 H2 L.sf L.R.fh (by simp), p1 D F2 H2 k g2 L.zf (sub_free g.h nD) e1 rk⟩
      · rw [if_neg hb] at p1; exact p1.elim
end
section
variable {X : Cx} {W : WX} {ρ : Rs} {pos : Pos} {α β γ δ S τ Ω : Type} [Enc α] [Enc β] [Enc γ] [Enc δ]
/-- {elt for tg in iter if ..} -/
theorem XS.sc (S : SKd X.prog X.w) (T : SRel S X.K β) {elt tg iter : Expr} {ifs : List Expr} {scope : Scope} {is : List Nat} (own : List (Str × Nat)) (ks : List Nat) {mi : Res (List α)} {mt : α → Res Bool} {me : α → Res β} (ρ1 : Rs) (ρb : α → Rs) (hc : X.calm = true) (hu : X.A.units + 64 < cLine) (hN : X.N.Nodup) (hi : XI X W ρ tg iter mi)
    (ok : blkC X.N X.env.scope scope own = true) (hg : ∀ x (s : Shared) (H : Hp) (C : Addr) (cl : List (Str × Addr)) (fp : List Addr), XG (X.blk s H scope (compEnvC scope cl C X.env) fp) is ρ1 tg (toD x) (ρb x))
    (ht : ∀ x (s : Shared) (H : Hp) (C : Addr) (cl : List (Str × Addr)) (fp : List Addr), XTs (X.blk s H scope (compEnvC scope cl C X.env) fp) W0 (ρb x) ifs (mt x))
    (he : ∀ x (s : Shared) (H : Hp) (C : Addr) (cl : List (Str × Addr)) (fp : List Addr), XV (X.blk s H scope (compEnvC scope cl C X.env) fp) W0 (ρb x) elt (me x))
    (hρ : ρ1 = keepAt ρ ks := by rfl) (ho : okK ρ (own.map (·.2)) ks = true := by rfl) (his : (is.all fun j => (own.map (·.2)).contains j) = true := by rfl) (hs : ∀ x, foldedSetIterable iter X.env x = pure x := by intro _; rfl) :
    PE X (.SetComp elt [⟨tg, iter, ifs, 0⟩] scope pos) (rdSt T X.N.length W ρ (do
    let xs ← mi
    let ys ← lcR mt me xs
    bdL T.bd ys)) :=
  PE.imp (pe_scG S hc hu hN hi (blkOk_by ok) (fun s H C cl fp => PG.ex fun x => hg x s H C cl fp) (fun s H C cl fp => PTs.ex fun x => ht x s H C cl fp) (fun s H C cl fp => PE.ex fun x => he x s H C cl fp) hs) fun σ H Q h =>
    sc_read T (tg := tg) (fun j hj => by simpa [List.contains_iff_mem] using List.all_eq_true.mp his j hj) (fun p hp => by rw [hρ] at hp; exact ⟨keep_mem hp, keep_ne hp ho⟩) h
end
end Vs
end
section
set_option Elab.async false
set_option linter.all false
set_option maxRecDepth 100000
set_option maxHeartbeats 2000000
/-! Vs22: sets of ints, of tuples of ints. -/
namespace Vs
open Enc (toD)
open PySem PySem.Spec PyProof.Rows L2
/-! ### ints -/
def skI (P : Program) (w : World) : SKd P w where
  κ := (Int → Bool) × Nat
  ι := Int
  ob a k := SetO w a k.1 k.2
  z := (fun _ => false, 0)
  fresh H h := setO_new (setR_fresh w)
  pre _ v _ k i := v = .int i ∧ k.2 + 1 < scanBound
  nx v k i k' := k' = (fun j => k.1 j || decide (j = i), if k.1 i = true then k.2 else k.2 + 1)
  add {X pins σ H s D k i v u E Q} hP hw hc hu I hD r p q := by
    subst hw
    obtain ⟨rfl, room⟩ := p
    obtain ⟨tk, rfl⟩ := r
    have R := setO_get I hD
    refine setR_add R room fun h' sb new => ?_
    refine q _ _ rfl (I.write (e := D) (t' := s.toks + 1) (by rw [hD]; trivial) (.inl rfl) (fun b u hb hu => (sb.2 b hb).trans hu) ?_ (setO_new new))
    have ⟨o, _, _, _, ho, _⟩ := new
    exact ⟨o, ho⟩
def srI (P : Program) (w : World) (K : PySem.W.Frag) : SRel (skI P w) K Int where
  R _ k acc := k.1 = (fun j => decide (j ∈ acc)) ∧ k.2 ≤ acc.length
  bd := 4094
  nt D k := ⟨by simp, fun xs e => by cases e⟩
  z _ := ⟨funext fun _ => by simp [skI], Nat.zero_le _⟩
  mono _ r := r
  step {F H k acc v x} sf r hb rx := by
    obtain ⟨S, n⟩ := k
    obtain ⟨r1, r2⟩ := r
    dsimp only at r1 r2
    subst r1
    obtain rfl := rx.int_of
    refine ⟨x, ⟨rfl, by unfold scanBound; dsimp only; omega⟩, ?_⟩
    rintro k' rfl
    refine ⟨funext fun j => ?_, ?_⟩
    · simp only [List.mem_append, List.mem_singleton, Bool.decide_or]
    · dsimp only
      rw [List.length_append, List.length_singleton]
      split <;> omega
/-! ### tuples of ints -/
class TI (α : Type) [Enc α] where
  is : α → List Int
  enc : ∀ a, toD a = .tuple ((is a).map PyData.int)
  inj : ∀ a b, is a = is b → a = b
instance : TI (Tup Int) := ⟨fun a => a.l, fun a => rfl, fun a b h => by cases a; cases b; exact congrArg Tup.mk h⟩
instance : TI (Int × Int) := ⟨fun a => [a.1, a.2], fun a => rfl, fun a b h => by cases a; cases b; cases h; rfl⟩
instance : TI (T3 Int Int Int) := ⟨fun a => [a.a, a.b, a.c], fun a => rfl, fun a b h => by cases a; cases b; cases h; rfl⟩
instance : TI (T4 Int Int Int Int) := ⟨fun a => [a.a, a.b, a.c, a.d], fun a => rfl, fun a b h => by cases a; cases b; cases h; rfl⟩
theorem rp_tup_ints {K : PySem.W.Frag} {F : Hp} {α : Type} [Enc α] [TI α] {v : V} {x : α} (r : Rp K F v (toD x)) : ∃ a, v = .ref a ∧ TpA K F a ((TI.is x).map V.int) := by
  rw [TI.enc] at r
  obtain ⟨a, xs, e, h1, h2⟩ := r.tup_at
  have q : xs = (TI.is x).map V.int := ints_of h2
  rw [q] at h1
  exact ⟨a, e, h1⟩
theorem rp_of_ints {K : PySem.W.Frag} {F : Hp} {α : Type} [Enc α] [TI α] {a : Addr} {x : α} (h : TpA K F a ((TI.is x).map V.int)) : Rp K F (.ref a) (toD x) := by
  rw [TI.enc]
  exact .tup h (rp_ints _)
section
variable {X : Cx} {pins : List (Addr × Obj)} {σ : St} {H : Hp} {s : Shared}
theorem addT_ok {E : Value → Shared → Prop} {D b : Addr} {L : List (Addr × List Int)} {k : List Int} {Q : Value → Shared → Prop} (hu : X.A.units + 64 < cLine) (I : Inv X pins σ H s) (hD : H D = some (SetTO X.prog X.w D L)) (ht : ∀ p ∈ L, SqT X.K H p.1 (p.2.map V.int)) (hb : SqT X.K H b (k.map V.int)) (hl : L.length + 1 < 64)
    (h : ∀ L' s', ((k ∈ L.map (·.2) ∧ L' = L) ∨ (k ∉ L.map (·.2) ∧ L'.Perm ((b, k) :: L))) → Inv X pins σ (upd H D (SetTO X.prog X.w D L')) s' → Q .none s') : wpAny (model X.prog X.w) X.A (call (.builtin "set.add") [.ref D, .ref b]) Q E s := by
  have R0 : SetT0 X.prog X.w s.heap D L := (I.hok D _ hD).1
  obtain ⟨es, ep, t, R⟩ := R0.full fun p hp => I.isT (ht p hp)
  have hx := I.isT hb
  have hT : s.TypeIs (.ref D) "set" := by
    obtain ⟨o, ho, hex, _⟩ := R.ob
    exact ⟨o, ho, hex.1⟩
  refine wpAny_call_entry F.slot_set_add hT F.entry_set_add ?_ (F.args_set_add_2 _ _)
  unfold Builtin.«set.add» Builtin.Frozenset.oneOther
  simp only [List.isEmpty_nil, bind_assoc]
  unfold Builtin.Frozenset.addrOf setAdd
  refine wpAny_bind (wpAny_pure ?_)
  try dsimp only
  refine wpAny_bind (wpAny_pure ?_)
  try dsimp only
  refine wpAny_bind (wpAny_holding ?_)
  have hu1 : X.A.in1.units < cLine := by
    have : X.A.in1.units ≤ X.A.units + 63 := by unfold Around.in1; first | (simp only []; omega) | simp
    omega
  refine wpAny_bind (wpAny_pyHash_tuple hu1 hx ?_)
  have R1 : SetTR X.prog X.w ({ s with toks := s.toks + (k.length + 1) } : Shared).heap D L es ep t := R
  refine add_at (s := { s with toks := s.toks + (k.length + 1) }) R1 hx hu1 hl fun b' h' L' es' ep' t' sb R' c1 c2 => ?_
  show wpAny _ _ (ret Value.none) _ _ _
  refine wpAny_pure ⟨_, rfl, h L' _ ?_ (I.write (e := D) (t' := s.toks + (k.length + 1)) (by rw [hD]; trivial) (.inl rfl) (fun b u hb hu => (sb.2 b hb).trans hu) ?_ (setTO_new R'.t0))⟩
  · by_cases hm : k ∈ L.map (·.2)
    · exact .inl ⟨hm, c1 hm⟩
    · exact .inr ⟨hm, c2 hm⟩
  · obtain ⟨o, ho, _⟩ := R'.ob
    exact ⟨o, ho⟩
end
def skT (P : Program) (w : World) : SKd P w where
  κ := List (Addr × List Int)
  ι := Addr × List Int
  ob a L := SetTO P w a L
  z := []
  fresh H h := setTO_new (setTR_fresh (P := P) (Heap.get?_push_size _ rfl)).t0
  pre K v H L i := v = .ref i.1 ∧ SqT K H i.1 (i.2.map V.int) ∧ (∀ p ∈ L, SqT K H p.1 (p.2.map V.int)) ∧ L.length + 1 < 64
  nx v L i L' := (i.2 ∈ L.map (·.2) ∧ L' = L) ∨ (i.2 ∉ L.map (·.2) ∧ L'.Perm (i :: L))
  add {X pins σ H s D k i v u E Q} hP hw hc hu I hD r p q := by
    subst hP hw
    obtain ⟨rfl, hb, ht, hl⟩ := p
    obtain rfl : u = Value.ref i.1 := r
    exact addT_ok hu I hD ht hb hl fun L' s' c I' => q L' s' c I'
structure TRel (K : PySem.W.Frag) {α : Type} [Enc α] [TI α] (F : Hp) (L : List (Addr × List Int)) (acc : List α) : Prop where
  tp : ∀ p ∈ L, TpA K F p.1 (p.2.map V.int)
  sub : ∀ p ∈ L, ∃ x ∈ acc, p.2 = TI.is x
  all : ∀ x ∈ acc, TI.is x ∈ L.map (·.2)
  len : L.length ≤ acc.length
theorem TRel.step {K : PySem.W.Frag} {α : Type} [Enc α] [TI α] {F : Hp} {L L' : List (Addr × List Int)} {acc : List α} {x : α} {b : Addr} (r : TRel K F L acc) (hbt : TpA K F b ((TI.is x).map V.int))
    (h : (TI.is x ∈ L.map (·.2) ∧ L' = L) ∨ (TI.is x ∉ L.map (·.2) ∧ L'.Perm ((b, TI.is x) :: L))) : TRel K F L' (acc ++ [x]) := by
  obtain ⟨r1, r2, r3, r4⟩ := r
  rcases h with ⟨hm, rfl⟩ | ⟨hm, pm⟩
  · refine ⟨r1, fun p h => ?_, fun y hy => ?_, by rw [List.length_append]; omega⟩
    · obtain ⟨y, hy, e⟩ := r2 p h
      exact ⟨y, List.mem_append_left _ hy, e⟩
    · rcases List.mem_append.mp hy with h | h
      · exact r3 y h
      · rw [List.mem_singleton.mp h]; exact hm
  · refine ⟨fun p h => ?_, fun p h => ?_, fun y hy => ?_, ?_⟩
    · rcases List.mem_cons.mp (pm.mem_iff.mp h) with e | h
      · rw [e]; exact hbt
      · exact r1 p h
    · rcases List.mem_cons.mp (pm.mem_iff.mp h) with e | h
      · exact ⟨x, List.mem_append_right _ (List.mem_singleton.mpr rfl), by rw [e]⟩
      · obtain ⟨y, hy, e⟩ := r2 p h
        exact ⟨y, List.mem_append_left _ hy, e⟩
    · rw [(pm.map (·.2)).mem_iff, List.map_cons]
      rcases List.mem_append.mp hy with h | h
      · exact List.mem_cons_of_mem _ (r3 y h)
      · rw [List.mem_singleton.mp h]; exact List.mem_cons_self
    · rw [pm.length_eq, List.length_append, List.length_cons, List.length_singleton]; omega
def srT (P : Program) (w : World) (K : PySem.W.Frag) (α : Type) [Enc α] [TI α] : SRel (skT P w) K α where
  R F L acc := TRel K F L acc
  bd := 63
  nt D k := ⟨by simp, fun xs e => by cases e⟩
  z F := TRel.mk (L := []) (fun p h => by cases h) (fun p h => by cases h) (fun p h => by cases h) (Nat.zero_le _)
  mono sf r := ⟨fun p h => (r.tp p h).sub sf, r.sub, r.all, r.len⟩
  step {F H L acc v x} sf r hb rx := by
    obtain ⟨b, rfl, hbt⟩ := rp_tup_ints rx
    have := r.len
    exact ⟨(b, TI.is x), ⟨rfl, sub_seqT sf hbt.sq, fun p h => sub_seqT sf (r.tp p h).sq, by omega⟩, fun L' c => r.step hbt c⟩
/-! ### sorted of such a set -/
section
variable {P : Program} {w : World} {A : Around} {E : Value → Shared → Prop} {s : Shared}
/-- list.sort of a list of one, or of none -/
theorem list_sort_short {a : Addr} {vs : List Value} {n : Nat} {Q : PySem.Fin → Shared → Prop} (ho : s.heap.get? a = some (seqObj "list" vs.toArray n)) (hs : vs.length < 2)
    (h : Q (.done (.ret .none)) { s with heap := sortedHeap s.heap a vs vs.toArray }) : wpAny (model P w) A (Builtin.«list.sort» ⟨[.ref a], []⟩) Q E s := by
  rw [PySem.W.plain_is_rev, list_sort_rev]
  have ha : a < s.heap.objs.size := Heap.lt_size ho
  have hL : vs.length ≤ sizeLine := by rw [sizeLine_eq]; omega
  refine wpAny_bind (listItems_at ho rfl ?_)
  refine wpAny_bind (listUpdate_at ho rfl ?_ (by rw [List.size_toArray]; exact hL) (Nat.zero_le _))
  obtain ⟨e1, ho1⟩ : ∃ e1, (s.heap.update a (Obj.mapSeq fun _ => #[])).get? a = some (seqObj "list" #[] e1) := ⟨_, get?_update_seq ho (fun _ => #[])⟩
  refine wpAny_bind (seqEpoch_at ho1 rfl (wpAny_bind (wpAny_newTuple ?_ (by show vs.length ≤ _; exact hL))))
  refine wpAny_bind (wpAny_newList ?_ (Nat.zero_le _))
  refine wpAny_holding ?_
  have ho6 : (((s.heap.update a (Obj.mapSeq fun _ => #[])).push (seqObj "tuple" vs.toArray 0)).push (seqObj "list" #[] 0)).get? a = some (seqObj "list" #[] e1) := by
    rw [Heap.get?_push_ne _ _ _ (by rw [size_push', Heap.size_update]; exact Nat.ne_of_lt (Nat.lt_succ_of_lt ha)), Heap.get?_push_ne _ _ _ (by rw [Heap.size_update]; exact Nat.ne_of_lt ha)]
    exact ho1
  show wpAny (model P w) A _ Q E { s with heap := ((s.heap.update a (Obj.mapSeq fun _ => #[])).push (seqObj "tuple" vs.toArray 0)).push (seqObj "list" #[] 0) }
  dsimp only
  simp only [Bool.false_eq_true, if_false]
  have hl2 : vs.toArray.size < 2 := by simpa using hs
  rw [if_pos hl2, if_pos hl2]
  refine wpAny_bind (wpAny_pure ?_)
  rw [StateT.run_pure]
  refine wpAny_bind (wpAny_pure ?_)
  dsimp only
  have out : (arrOf (SortSt.mk' general' (vs.toArray.zip vs.toArray) #[] 7 none)).map (·.2) = vs.toArray := by
    show (vs.toArray.zip vs.toArray).map (·.2) = vs.toArray
    apply Array.ext'
    rw [Array.toList_map, Array.toList_zip]
    simp [List.map_snd_zip]
  refine wpAny_bind (seqEpoch_at ho6 rfl ?_)
  first
    | rw [out]
    | skip
  refine wpAny_bind (listUpdate_at ho6 rfl ?_ (Nat.zero_le _) (by rw [List.size_toArray]; omega))
  simp only [bne_self_eq_false, Bool.false_eq_true, if_false]
  exact wpAny_pure h
end
end Vs
end
section
set_option Elab.async false
set_option linter.all false
set_option maxRecDepth 100000
set_option maxHeartbeats 2000000
/-! Vs23: sorted, len of sets of tuples; the sets in expressions. -/
namespace Vs
open Enc (toD)
open PySem PySem.Spec PyProof.Rows L2
abbrev encQ : Addr × List Int → PyData := fun p => .tuple (p.2.map PyData.int)
section
variable {P : Program} {w : World} {A : Around} {E : Value → Shared → Prop} {s : Shared}
theorem reads_isT {h : Heap} {k : List Int} {b : Addr} (x : IsT P w h k b) : ∃ as, Reads h (.ref b) (.tuple (k.map PyData.int)) as := by
  obtain ⟨o, items, n, ho, hc, hd, hi⟩ := x
  have q : ∀ {k : List Int} {vs : List Value}, ItemsAre (intKind P w) k vs → ∃ as, ReadsAll h vs (k.map PyData.int) as := by
    intro k vs hi
    induction hi with
    | nil => exact ⟨_, .nil⟩
    | @cons k0 v ks vs h1 _ ih =>
      obtain ⟨t, rfl⟩ := Value.isInt_shape h1
      obtain ⟨as, r⟩ := ih
      exact ⟨_, .cons (.int _ _) r⟩
  obtain ⟨as, r⟩ := q hi
  exact ⟨_, .tuple ho hc hd r⟩
theorem sorted_setD {a : Addr} {L : List (Addr × List Int)} {es : Array (Int × Value)} {ep : Nat} {t : SetTable} {Q : Value → Shared → Prop} (R : SetTR P w s.heap a L es ep t) (hh : A.handled = none) (hu : A.units + 64 < cLine)
    (hk : (∀ p ∈ L, p.2 ≠ []) ∨ L.length ≤ 1)
    (hQ : ∀ s' p (out : Array Value) (c : Nat) (L' : List (Addr × List Int)), (∀ b o, s.heap.get? b = some o → s'.heap.get? b = some o) → s'.gens = s.gens → s'.os = s.os → s.heap.objs.size ≤ p →
      s'.heap.get? p = some (seqObj "list" out c) → out.toList = L'.map (fun q => Value.ref q.1) → L'.Perm L → L'.Pairwise (fun q r => PySem.W.dataLt (encQ r) (encQ q) = false) → Q (.ref p) s') :
    wpAny (model P w) A (call (.builtin "sorted") [.ref a]) Q E s := by
  obtain ⟨o, ho, hex, hd⟩ := R.ob
  have hfew := R.few
  refine Calls.call_function_entry kind_sorted plain_sorted entry_sorted (args_sorted1 _) ?_
  unfold Builtin.«sorted»
  refine wpAny_bind (m := checkCount "sorted" 1 1 _) (wpAny_pure ?_)
  have hsz := R.size
  refine wpAny_bind (collect_set (A := A.in1) hh ⟨o, ho, hex.1, hd⟩ R.fits (by unfold scanBound; omega) R.tab.ris R.led fun s1 vs k1 hz g1 o1 pm => ?_)
  have hes : es.toList.map (·.2) = L.map fun q => Value.ref q.1 := by
    rw [R.rows]
    unfold rowsOf
    rw [List.map_map] <;> rfl
  rw [hes] at pm
  -- the rows in the order of the walk
  have one : ∀ q ∈ L, ∀ r ∈ L, q.1 = r.1 → q = r := fun q hq r hr e => by
    have a1 := R.tup q hq
    rw [e] at a1
    exact Prod.ext e (a1.inj (R.tup r hr))
  obtain ⟨L1, e1, p1⟩ : ∃ L1 : List (Addr × List Int), vs = L1.map (fun q => Value.ref q.1) ∧ L1.Perm L := by
    have ord : ∀ us : List Value, (∀ v ∈ us, ∃ q ∈ L, v = Value.ref q.1) → ∃ L1 : List (Addr × List Int), us = L1.map (fun q => Value.ref q.1) ∧ ∀ q ∈ L1, q ∈ L := by
      intro us
      induction us with
      | nil => exact fun _ => ⟨[], rfl, fun q hq => nomatch hq⟩
      | cons v us ih =>
        intro hv
        obtain ⟨q, hq, rfl⟩ := hv v List.mem_cons_self
        obtain ⟨L1, rfl, hs⟩ := ih fun u hu => hv u (List.mem_cons_of_mem _ hu)
        exact ⟨q :: L1, rfl, fun r hr => (List.mem_cons.mp hr).elim (fun z => z ▸ hq) (hs r)⟩
    obtain ⟨L1, e1, hs⟩ := ord vs fun v hv => by
      obtain ⟨q, hq, e⟩ := List.mem_map.mp (pm.mem_iff.mp hv)
      exact ⟨q, hq, e.symm⟩
    refine ⟨L1, e1, ?_⟩
    have nL : L.Nodup := nodup_of_map R.nd
    have nref : (L.map fun q => Value.ref q.1).Nodup := List.pairwise_map.mpr (List.Pairwise.imp_of_mem (fun {q r} hq hr hne e => by
      injection e with e
      exact hne (one q hq r hr e)) nL)
    have n1 : L1.Nodup := nodup_of_map (f := fun q => Value.ref q.1) (by rw [← e1]; exact pm.nodup_iff.mpr nref)
    refine (List.perm_ext_iff_of_nodup n1 nL).mpr fun q => ⟨hs q, fun hq => ?_⟩
    have hm : Value.ref q.1 ∈ L1.map (fun q => Value.ref q.1) := by rw [← e1]; exact pm.mem_iff.mpr (List.mem_map.mpr ⟨q, hq, rfl⟩)
    obtain ⟨r, hr, e⟩ := List.mem_map.mp hm
    injection e with e
    rw [← one r (hs r hr) q hq e]
    exact hr
  have hvl : vs.length < 64 := by rw [e1, List.length_map, p1.length_eq]; exact hfew
  have hsl : vs.length ≤ sizeLine := by rw [sizeLine_eq]; omega
  refine wpAny_bind (wpAny_newList ?_ hsl)
  have hoL : (s1.heap.push (seqObj "list" vs.toArray 0)).get? s1.heap.objs.size = some (seqObj "list" vs.toArray 0) := Heap.get?_push_size _ rfl
  have fin : ∀ (L' : List (Addr × List Int)) (out : Array Value), out.toList = L'.map (fun q => Value.ref q.1) → L'.Perm L → L'.Pairwise (fun q r => PySem.W.dataLt (encQ r) (encQ q) = false) →
      Q (.ref s1.heap.objs.size) { s1 with heap := sortedHeap (s1.heap.push (seqObj "list" vs.toArray 0)) s1.heap.objs.size vs out } := fun L' out e' pL pw => by
    obtain ⟨c, hc⟩ := sortedHeap_at (vs := vs) (out := out) hoL
    refine hQ _ s1.heap.objs.size out c L' (fun b u e => ?_) g1 o1 hz hc e' pL pw
    have q := k1 b u e
    have hlt := Heap.lt_size q
    show (sortedHeap (s1.heap.push (seqObj "list" vs.toArray 0)) s1.heap.objs.size vs out).get? b = some u
    rw [sortedHeap_old (Nat.ne_of_lt hlt) (by rw [size_push']; exact Nat.lt_succ_of_lt hlt)]
    exact Heap.get?_push_of_some _ q
  have body : ∀ E' : Value → Shared → Prop, wpAny (model P w) A.in1.in1 (Builtin.«list.sort» ⟨[.ref s1.heap.objs.size], []⟩) (fun f s' => f = .done (.ret .none) ∧ Q (.ref s1.heap.objs.size) s') E' { s1 with heap := s1.heap.push (seqObj "list" vs.toArray 0) } := fun E' => by
    rcases hk with hk | hk
    · have hR : PySem.W.EachIs (fun u (p : Addr × List Int) => u = Value.ref p.1 ∧ p ∈ L1) vs L1 := by
        rw [e1]
        have : ∀ M : List (Addr × List Int), (∀ p ∈ M, p ∈ L1) → PySem.W.EachIs (fun u (p : Addr × List Int) => u = Value.ref p.1 ∧ p ∈ L1) (M.map fun q => Value.ref q.1) M := by
          intro M
          induction M with
          | nil => exact fun _ => .nil
          | cons p M ih => exact fun h => .cons ⟨rfl, h p List.mem_cons_self⟩ (ih fun q hq => h q (List.mem_cons_of_mem _ hq))
        exact this L1 fun p hp => hp
      have old : ∀ b u, s.heap.get? b = some u → (PySem.W.sortingHeap (s1.heap.push (seqObj "list" vs.toArray 0)) s1.heap.objs.size vs).get? b = some u := fun b u e =>
        PySem.W.sortingHeap_old (Nat.ne_of_lt (Heap.lt_size (k1 b u e))) (Heap.get?_push_of_some _ (k1 b u e))
      have hr : PySem.W.EachIs (fun u p => ∃ as, Reads (PySem.W.sortingHeap (s1.heap.push (seqObj "list" vs.toArray 0)) s1.heap.objs.size vs) u (encQ p) as) vs L1 := hR.mono fun u p ⟨e, hp⟩ => by
        rw [e]
        exact reads_isT (P := P) (w := w) (isT_keep (R.tup p (p1.mem_iff.mp hp)) old)
      have al : PySem.W.AllAlike (L1.map encQ) := PySem.W.AllAlike.of fun b b' => by
        show PySem.W.alike (.tuple (b.2.map PyData.int)) (.tuple (b'.2.map PyData.int)) = true
        rw [PySem.W.alike]; exact PySem.W.alike_ints _ _
      refine PySem.W.list_sort_vals (κ := PySem.W.dataKind (PySem.W.sortingHeap (s1.heap.push (seqObj "list" vs.toArray 0)) s1.heap.objs.size vs) (L1.map encQ)) (s := { s1 with heap := s1.heap.push (seqObj "list" vs.toArray 0) }) hoL
        (PySem.W.SortsAt.data (s := { s1 with heap := PySem.W.sortingHeap (s1.heap.push (seqObj "list" vs.toArray 0)) s1.heap.objs.size vs }) (PySem.W.each_map (R := fun v d => ∃ as, Reads (PySem.W.sortingHeap (s1.heap.push (seqObj "list" vs.toArray 0)) s1.heap.objs.size vs) v d as) encQ hr) al (.inl fun d hd => ?_) (fun d hd => ?_)) hsl ⟨rfl, ?_⟩
      · obtain ⟨p, hp, rfl⟩ := List.mem_map.mp hd
        have ne := hk p (p1.mem_iff.mp hp)
        cases e : p.2 with
        | nil => exact absurd e ne
        | cons x r => exact ⟨.int x, r.map PyData.int, by show PyData.tuple (p.2.map PyData.int) = _; rw [e]; rfl⟩
      · obtain ⟨p, hp, rfl⟩ := List.mem_map.mp hd
        show A.in1.in1.units + (PyData.tuple (p.2.map PyData.int)).depth < cLine
        rw [PyData.depth, PySem.W.depth_ints]
        have : A.in1.in1.units ≤ A.units + 60 := by unfold Around.in1; first | (simp only []; omega) | simp
        omega
      · have ev := PySem.W.sortVals_data (h' := PySem.W.sortingHeap (s1.heap.push (seqObj "list" vs.toArray 0)) s1.heap.objs.size vs) false hR hr al
        have le := List.pairwise_mergeSort (le := PySem.W.dataLe false encQ) (fun a b c h1 h2 => ?_) (fun a b => ?_) L1
        · refine fin (L1.mergeSort (PySem.W.dataLe false encQ)) _ ?_ ((List.mergeSort_perm _ _).trans p1) (le.imp fun {q r} h => ?_)
          · rw [List.toList_toArray]
            have : ∀ {us : List Value} {M : List (Addr × List Int)}, PySem.W.EachIs (fun u (p : Addr × List Int) => u = Value.ref p.1 ∧ p ∈ L1) us M → us = M.map fun q => Value.ref q.1 := by
              intro us M h
              induction h with
              | nil => rfl
              | cons h1 _ ih => rw [h1.1, ih]; rfl
            exact this ev
          · rw [PySem.W.dataLe_eq] at h
            simpa using h
        · rw [PySem.W.dataLe_eq] at h1 h2 ⊢
          have q1 : PySem.W.dataLt (encQ b) (encQ a) = false := by simpa using h1
          have q2 : PySem.W.dataLt (encQ c) (encQ b) = false := by simpa using h2
          have e : ∀ x y : Addr × List Int, PySem.W.dataLt (encQ x) (encQ y) = Ord1.lt (Tup.mk x.2) (Tup.mk y.2) := fun x y => PyLt.ok (α := Tup Int) ⟨x.2⟩ ⟨y.2⟩
          rw [e] at q1 q2
          have q3 := le_tr q1 q2
          rw [← e] at q3
          simpa using q3
        · rw [PySem.W.dataLe_eq]
          have e : ∀ x y : Addr × List Int, PySem.W.dataLt (encQ x) (encQ y) = Ord1.lt (Tup.mk x.2) (Tup.mk y.2) := fun x y => PyLt.ok (α := Tup Int) ⟨x.2⟩ ⟨y.2⟩
          cases q : PySem.W.dataLt (encQ b) (encQ a) with
          | false => simp [q]
          | true =>
            rw [e] at q
            have := OrdT.asym q
            rw [← e] at this
            simp [this]
    · refine list_sort_short (s := { s1 with heap := s1.heap.push (seqObj "list" vs.toArray 0) }) hoL (by rw [e1, List.length_map, p1.length_eq]; omega) ⟨rfl, fin L1 _ (by rw [List.toList_toArray, e1]) p1 ?_⟩
      have : L1.length ≤ 1 := by rw [p1.length_eq]; exact hk
      match L1, this with
      | [], _ => exact .nil
      | [x], _ => exact List.pairwise_singleton _ _
  refine wpAny_bind (wpAny_holding (wpAny_call_entry slot_list_sort ⟨_, hoL, rfl⟩ entry_list_sort ?_ (args_list_sort _)))
  refine wpAny_mono (body _) (fun f s' hf => ?_) fun _ _ e => e
  obtain ⟨rfl, hq⟩ := hf
  exact ⟨_, rfl, wpAny_pure ⟨_, rfl, hq⟩⟩
end
end Vs
end
section
set_option Elab.async false
set_option linter.all false
set_option maxRecDepth 100000
set_option maxHeartbeats 2000000
/-! Vs24: sets of tuples in expressions. -/
namespace Vs
open Enc (toD)
open PySem PySem.Spec PyProof.Rows L2
def setT {α : Type} (xs : List α) : Res (List α) := bdL 63 xs
theorem bdL_no {α : Type} {n : Nat} {xs : List α} {c : Str} {i : Int} : bdL n xs ≠ .exc c i := by unfold bdL; split <;> intro h <;> cases h
theorem bdL_setI (xs : List Int) : bdL 4094 xs = setI xs := by
  unfold bdL setI
  by_cases h : xs.length ≤ 4094
  · rw [if_pos h, if_pos (by omega)]
  · rw [if_neg h, if_neg (by omega)]
/-- which lists of tuples have a tuple without items only where it is their only kind -/
class TIo (α : Type) [Enc α] [TI α] [Ord1 α] : Prop where
  ne : ∀ xs : List α, Ord1.sb xs = true → ∀ x ∈ xs, TI.is x ≠ []
instance : TIo (Tup Int) := ⟨fun xs h x hx e => by
  have q := List.all_eq_true.mp h x hx
  have e : x.l = [] := e
  rw [e] at q; cases q⟩
instance : TIo (Int × Int) := ⟨fun _ _ _ _ e => by cases e⟩
instance : TIo (T3 Int Int Int) := ⟨fun _ _ _ _ e => by cases e⟩
instance : TIo (T4 Int Int Int Int) := ⟨fun _ _ _ _ e => by cases e⟩
section
variable {K : PySem.W.Frag} {α : Type} [Enc α] [TI α] [DecidableEq α] {F : Hp} {L : List (Addr × List Int)} {acc : List α}
theorem TRel.row (r : TRel K F L acc) : ∀ {L' : List (Addr × List Int)}, (∀ p ∈ L', p ∈ L) → ∃ ys : List α, L'.map (·.2) = ys.map TI.is ∧ (∀ y ∈ ys, y ∈ acc) ∧ RpAll K F (L'.map fun q => V.ref q.1) (ys.map toD)
  | [], _ => ⟨[], rfl, (fun _ h => nomatch h), RpAll.nil⟩
  | p :: L', h => by
    obtain ⟨ys, e1, e2, e3⟩ := r.row (L' := L') fun q hq => h q (List.mem_cons_of_mem _ hq)
    obtain ⟨x, hx, e⟩ := r.sub p (h p List.mem_cons_self)
    refine ⟨x :: ys, by rw [List.map_cons, List.map_cons, e1, e], fun y hy => (List.mem_cons.mp hy).elim (fun z => z ▸ hx) (e2 y), .cons ?_ e3⟩
    have := r.tp p (h p List.mem_cons_self)
    rw [e] at this
    exact rp_of_ints this
theorem TRel.rows (r : TRel K F L acc) {L' : List (Addr × List Int)} (nd : (L.map (·.2)).Nodup) (pm : L'.Perm L) : ∃ ys : List α, L'.map (·.2) = ys.map TI.is ∧ ys.Perm (dedup acc) ∧ RpAll K F (L'.map fun q => V.ref q.1) (ys.map toD) := by
  obtain ⟨ys, e1, e2, e3⟩ := r.row (L' := L') fun p h => pm.mem_iff.mp h
  refine ⟨ys, e1, ?_, e3⟩
  have n1 : (ys.map TI.is).Nodup := by rw [← e1]; exact (pm.map (·.2)).nodup_iff.mpr nd
  refine (List.perm_ext_iff_of_nodup (nodup_of_map n1) (nodup_dedup acc)).mpr fun x => ⟨fun h => mem_dedup.mpr (e2 x h), fun h => ?_⟩
  have q := r.all x (mem_dedup.mp h)
  have q2 : TI.is x ∈ L'.map (·.2) := (pm.map (·.2)).mem_iff.mpr q
  rw [e1] at q2
  obtain ⟨y, hy, e⟩ := List.mem_map.mp q2
  rw [← TI.inj _ _ e]; exact hy
theorem TRel.count (r : TRel K F L acc) (nd : (L.map (·.2)).Nodup) : L.length = (dedup acc).length := by
  obtain ⟨ys, e1, e2, _⟩ := r.rows nd (.refl _)
  have q := congrArg List.length e1
  rw [List.length_map, List.length_map] at q
  rw [q, e2.length_eq]
end
section
variable {X : Cx} {W : WX} {ρ : Rs} {pos : Pos} {α β γ δ S τ Ω : Type} [Enc α] [Enc β] [Enc γ] [Enc δ]
/-- e gives a set of these tuples -/
abbrev XUT (X : Cx) (W : WX) (ρ : Rs) [TI α] (e : Expr) (m : Res (List α)) : Prop := PE X e (rdSt (srT X.prog X.w X.K α) X.N.length W ρ m)
theorem XU.sc {elt tg iter : Expr} {ifs : List Expr} {scope : Scope} {is : List Nat} (own : List (Str × Nat)) (ks : List Nat) {mi : Res (List α)} {mt : α → Res Bool} {me : α → Res Int} (ρ1 : Rs) (ρb : α → Rs) (hc : X.calm = true) (hu : X.A.units + 64 < cLine) (hN : X.N.Nodup) (hi : XI X W ρ tg iter mi)
    (ok : blkC X.N X.env.scope scope own = true) (hg : ∀ x (s : Shared) (H : Hp) (C : Addr) (cl : List (Str × Addr)) (fp : List Addr), XG (X.blk s H scope (compEnvC scope cl C X.env) fp) is ρ1 tg (toD x) (ρb x))
    (ht : ∀ x (s : Shared) (H : Hp) (C : Addr) (cl : List (Str × Addr)) (fp : List Addr), XTs (X.blk s H scope (compEnvC scope cl C X.env) fp) W0 (ρb x) ifs (mt x))
    (he : ∀ x (s : Shared) (H : Hp) (C : Addr) (cl : List (Str × Addr)) (fp : List Addr), XV (X.blk s H scope (compEnvC scope cl C X.env) fp) W0 (ρb x) elt (me x))
    (hρ : ρ1 = keepAt ρ ks := by rfl) (ho : okK ρ (own.map (·.2)) ks = true := by rfl) (his : (is.all fun j => (own.map (·.2)).contains j) = true := by rfl) (hs : ∀ x, foldedSetIterable iter X.env x = pure x := by intro _; rfl) :
    XU X W ρ (.SetComp elt [⟨tg, iter, ifs, 0⟩] scope pos) (do
    let xs ← mi
    let ys ← lcR mt me xs
    setI ys) :=
  PE.imp (XS.sc (skI X.prog X.w) (srI X.prog X.w X.K) own ks ρ1 ρb hc hu hN hi ok hg ht he hρ ho his hs) fun σ H Q ⟨F0, H0, F, R, p⟩ => ⟨F0, H0, F, R, by
    have e : (mi >>= fun xs => lcR mt me xs >>= fun ys => bdL 4094 ys) = (mi >>= fun xs => lcR mt me xs >>= fun ys => setI ys) := by simp only [bdL_setI]
    show PostSt (srI X.prog X.w X.K) W F H (mi >>= fun xs => lcR mt me xs >>= fun ys => bdL 4094 ys) Q
    rw [e]
    have p : PostU X.K X.w W F H (mi >>= fun xs => lcR mt me xs >>= fun ys => setI ys) Q := p
    cases q : (mi >>= fun xs => lcR mt me xs >>= fun ys => setI ys) with
    | exc c i => rw [q] at p; exact p
    | stuck => rw [q] at p; exact p
    | ok xs =>
      rw [q] at p
      intro a F' H' k g fa na ha rr
      obtain ⟨S, c⟩ := k
      obtain ⟨r1, r2⟩ := rr
      dsimp only at r1
      subst r1
      exact p a F' H' c g fa na ha⟩
theorem XUT.sc [TI β] {elt tg iter : Expr} {ifs : List Expr} {scope : Scope} {is : List Nat} (own : List (Str × Nat)) (ks : List Nat) {mi : Res (List α)} {mt : α → Res Bool} {me : α → Res β} (ρ1 : Rs) (ρb : α → Rs) (hc : X.calm = true) (hu : X.A.units + 64 < cLine) (hN : X.N.Nodup) (hi : XI X W ρ tg iter mi)
    (ok : blkC X.N X.env.scope scope own = true) (hg : ∀ x (s : Shared) (H : Hp) (C : Addr) (cl : List (Str × Addr)) (fp : List Addr), XG (X.blk s H scope (compEnvC scope cl C X.env) fp) is ρ1 tg (toD x) (ρb x))
    (ht : ∀ x (s : Shared) (H : Hp) (C : Addr) (cl : List (Str × Addr)) (fp : List Addr), XTs (X.blk s H scope (compEnvC scope cl C X.env) fp) W0 (ρb x) ifs (mt x))
    (he : ∀ x (s : Shared) (H : Hp) (C : Addr) (cl : List (Str × Addr)) (fp : List Addr), XV (X.blk s H scope (compEnvC scope cl C X.env) fp) W0 (ρb x) elt (me x))
    (hρ : ρ1 = keepAt ρ ks := by rfl) (ho : okK ρ (own.map (·.2)) ks = true := by rfl) (his : (is.all fun j => (own.map (·.2)).contains j) = true := by rfl) (hs : ∀ x, foldedSetIterable iter X.env x = pure x := by intro _; rfl) :
    XUT X W ρ (.SetComp elt [⟨tg, iter, ifs, 0⟩] scope pos) (do
    let xs ← mi
    let ys ← lcR mt me xs
    setT ys) := XS.sc (skT X.prog X.w) (srT X.prog X.w X.K β) own ks ρ1 ρb hc hu hN hi ok hg ht he hρ ho his hs
theorem tup_rows [TI α] {K : PySem.W.Frag} {F : Hp} : ∀ {vs : List V} {xs : List α}, RpAll K F vs (xs.map toD) → ∃ ks : List (Addr × List Int), vs = ks.map (fun p => V.ref p.1) ∧ ks.map (·.2) = xs.map TI.is ∧ ∀ p ∈ ks, TpA K F p.1 (p.2.map V.int)
  | _, [], r => by cases r; exact ⟨[], rfl, rfl, fun _ h => nomatch h⟩
  | _, x :: xs, r => by
    rw [List.map_cons] at r
    cases r with
    | cons r1 r2 =>
      obtain ⟨ks, e1, e2, e3⟩ := tup_rows r2
      obtain ⟨a, rfl, h⟩ := rp_tup_ints r1
      refine ⟨(a, TI.is x) :: ks, by rw [e1]; rfl, by rw [List.map_cons, List.map_cons, e2], fun p hp => ?_⟩
      rcases List.mem_cons.mp hp with e | hp
      · rw [e]; exact h
      · exact e3 p hp
theorem cr_setT (hc : X.calm = true) (hu : X.A.units + 64 < cLine) : CallR X (.type "set") (fun xs H Q => ∃ (l : Addr) (ks : List (Addr × List Int)), xs = [V.ref l] ∧ SqL X.K H l (ks.map fun p => V.ref p.1) ∧ (∀ p ∈ ks, SqT X.K H p.1 (p.2.map V.int)) ∧ ks.length < 64 ∧
    ∀ a L, H a = none → (∀ p ∈ L, p ∈ ks) → (∀ p ∈ ks, p.2 ∈ L.map (·.2)) → L.length ≤ ks.length → Q (.ref a) (upd H a (SetTO X.prog X.w a L))) := by
  rintro pins s σ H xs us Q I r ⟨l, ks, rfl, hl, hk, hf, q⟩
  rw [Vals.ref1 r]
  obtain ⟨its, rv, pl, hz⟩ := I.list hl
  refine call_set_tups (P := X.prog) (w := X.w) ks (I.ok.hd hc) pl.isList (by simpa using refs_of_vals rv) (fun p hp => I.isT (hk p hp)) hf (by omega) fun h' tk L es ep t R g k => ?_
  exact ⟨.ref s.heap.objs.size, upd H s.heap.objs.size (SetTO X.prog X.w s.heap.objs.size L), I.laid (t' := tk) k (Nat.le_refl _) (setTO_new R.t0), rfl, q _ L (I.hok.fresh (Nat.le_refl _)) (fun p hp => List.mem_of_mem_take (g.sub p hp)) (fun p hp => g.all p (by rw [List.take_length]; exact hp)) g.len⟩
/-- set(xs), xs a list of tuples of ints -/
theorem XUT.set [TI α] {e : Expr} {p : Pos} {m : Res (List α)} (hc : X.calm = true) (hu : X.A.units + 64 < cLine) (hm : X.mg "set" = none) (he : XW X W ρ e m) (hg : Gl X "set" := by rfl)
    (hs : starEach [e] X.env = [(false, eval e X.env)] := by rfl) : XUT X W ρ (.Call (.Name "set" p) [e] [] pos) (do
    let xs ← m
    setT xs) := by
  refine PE.imp (pe_callTy (cr_setT hc hu) hg hm PyProof.Rows.boot_set (XA.one he hs) (by decide) (by decide) hs rfl) fun σ H Q ⟨F0, H0, F, R, p⟩ => ?_
  refine ⟨F0, H0, F, R, ?_⟩
  cases m with
  | exc c i => exact p
  | stuck => exact p
  | ok xs =>
    intro v F1 H1 g r
    have p1 : PostSt (srT X.prog X.w X.K α) W F H (bdL 63 xs) Q := p
    unfold bdL at p1
    by_cases hl : xs.length ≤ 63
    · rw [if_pos hl] at p1
      obtain ⟨a, vs, rfl, h1, h2⟩ := r.lst_of g.fh
      obtain ⟨ks, e1, e2, e3⟩ := tup_rows h2
      subst e1
      have hkl : ks.length = xs.length := by rw [← List.length_map (f := (·.2)), e2, List.length_map]
      refine ⟨a, ks, rfl, .inl (.inl h1), fun p hp => sub_seqT g.fh (e3 p hp).sq, by omega, fun q L nq s1 s2 s3 => ?_⟩
      refine p1 q F1 _ L (g.trans (.own g.fh nq)) (sub_free g.fh nq) (sub_free g.h nq) upd_same ⟨fun p hp => e3 p (s1 p hp), fun p hp => ?_, fun x hx => ?_, by omega⟩
      · have : p.2 ∈ xs.map TI.is := by rw [← e2]; exact List.mem_map_of_mem (s1 p hp)
        obtain ⟨x, hx, e⟩ := List.mem_map.mp this
        exact ⟨x, hx, e.symm⟩
      · have : TI.is x ∈ ks.map (·.2) := by rw [e2]; exact List.mem_map_of_mem hx
        obtain ⟨p, hp, e⟩ := List.mem_map.mp this
        rw [← e]; exact s2 p hp
    · rw [if_neg hl] at p1; exact p1.elim
/-! ### sorted, len -/
theorem cr_sortTU (hc : X.calm = true) (hu : X.A.units + 64 < cLine) : CallR X (.builtin "sorted") (fun vs H Q => ∃ (a : Addr) (L : List (Addr × List Int)), vs = [V.ref a] ∧ H a = some (SetTO X.prog X.w a L) ∧ (∀ p ∈ L, SqT X.K H p.1 (p.2.map V.int)) ∧ ((L.map (·.2)).Nodup → (∀ p ∈ L, p.2 ≠ []) ∨ L.length ≤ 1) ∧
    ∀ (L' : List (Addr × List Int)) (p : Addr), (L.map (·.2)).Nodup → L'.Perm L → L'.Pairwise (fun q r => PySem.W.dataLt (encQ r) (encQ q) = false) → H p = none → Q (.ref p) (upd H p (.lst (L'.map fun q => V.ref q.1)))) := by
  rintro pins s σ H vs us Q I r ⟨a, L, rfl, ha, hk, hne, q⟩
  have R0 : SetT0 X.prog X.w s.heap a L := (I.hok a _ ha).1
  obtain ⟨es, ep, t, R⟩ := R0.full fun p hp => I.isT (hk p hp)
  rw [Vals.ref1 r]
  refine sorted_setD R (I.ok.hd hc) hu (hne R.nd) fun s' p out c L' k g o hp hg hout pm pw => ?_
  have hfew : L'.length < 64 := by rw [pm.length_eq]; exact R.few
  have hv : Vals (L'.map fun q => V.ref q.1) out.toList := by rw [hout]; exact vals_of_refs L'
  have J : Inv X pins σ (upd H p (.lst (L'.map fun q => V.ref q.1))) { s with heap := s'.heap, gens := s'.gens, drawn := s'.drawn, toks := s'.toks } :=
    I.call (ch := []) (Un.laid k hp (I.hok.fresh hp)) (I.hok.laid k hp ⟨by rw [List.length_map, sizeLine_eq]; omega, out.toList, c, hv, hg⟩) (by rw [g]; exact I.bare) (fun _ z => nomatch z)
  have e : s' = { s with heap := s'.heap, gens := s'.gens, drawn := s'.drawn, toks := s'.toks } := by
    cases s'; cases s; cases o; rfl
  rw [e]
  exact ⟨.ref p, _, J, rfl, q L' p R.nd pm pw (I.hok.fresh hp)⟩
def sortT [DecidableEq α] [Ord1 α] (xs : List α) : Res (List α) := if Ord1.sb xs = true ∨ (dedup xs).length ≤ 1 then .ok (sortS xs) else .stuck
theorem XF.sortedT [TI α] [DecidableEq α] [PyEq α] [Ord1 α] [PyLt α] [OrdT α] [TIo α] {e : Expr} {p : Pos} {m : Res (List α)} (hc : X.calm = true) (hu : X.A.units + 64 < cLine) (hm : X.mg "sorted" = none) (he : XUT X W ρ e m) (hg : Gl X "sorted" := by rfl)
    (hs : starEach [e] X.env = [(false, eval e X.env)] := by rfl) : XF X W ρ (.Call (.Name "sorted" p) [e] [] pos) (do
    let xs ← m
    sortT xs) := by
  refine PE.imp (pe_callB (cr_sortTU hc hu) hg hm (by rfl) (PA.imp (pa_cons he pa_nil hs) fun σ H Q (h : rdSt (srT X.prog X.w X.K α) X.N.length W ρ m σ H fun v H1 => Q [v] H1) => h) (by decide) (by decide) hs rfl) fun σ H Q ⟨F0, H0, F, R, p⟩ => ?_
  refine ⟨F0, H0, F, R, ?_⟩
  cases m with
  | exc c i => exact p
  | stuck => exact p
  | ok xs =>
    intro a F1 H1 L g fa na ha r
    have r : TRel X.K F1 L xs := r
    have p1 : PostF X.K W F H ((sortT xs).map toD) Q := p
    unfold sortT at p1
    by_cases hb : Ord1.sb xs = true ∨ (dedup xs).length ≤ 1
    · rw [if_pos hb] at p1
      refine ⟨a, L, rfl, ha, fun p hp => sub_seqT g.fh (r.tp p hp).sq, fun nd => ?_, fun L' q nd pm pw nq => ?_⟩
      · rcases hb with hb | hb
        · refine .inl fun p hp => ?_
          obtain ⟨x, hx, e⟩ := r.sub p hp
          rw [e]; exact TIo.ne xs hb x hx
        · exact .inr (by rw [r.count nd]; exact hb)
      · obtain ⟨ys, e1, e2, e3⟩ := r.rows nd pm
        have el : ∀ x y : α, Ord1.lt x y = PySem.W.dataLt (.tuple ((TI.is x).map PyData.int)) (.tuple ((TI.is y).map PyData.int)) := fun x y => by rw [← TI.enc, ← TI.enc, PyLt.ok]
        have pw2 : ys.Pairwise fun x y => Ord1.lt y x = false := by
          have h1 : (L'.map (·.2)).Pairwise fun q r => PySem.W.dataLt (.tuple (r.map PyData.int)) (.tuple (q.map PyData.int)) = false := List.pairwise_map.mpr pw
          rw [e1] at h1
          exact (List.pairwise_map.mp h1).imp fun h => by rw [el]; exact h
        have e : ys = sortS xs := (sortP_uniq pw2 e2).symm
        rw [e] at e3
        exact p1 q F1 _ (g.trans (.own g.fh nq)) (sub_free g.h nq) ⟨sub_free g.fh nq, .inl ⟨_, _, upd_same, e3, rfl⟩⟩
    · rw [if_neg hb] at p1; exact p1.elim
theorem cr_lenTU : CallR X (.builtin "len") (fun vs H Q => ∃ (a : Addr) (L : List (Addr × List Int)), vs = [V.ref a] ∧ H a = some (SetTO X.prog X.w a L) ∧ (∀ p ∈ L, SqT X.K H p.1 (p.2.map V.int)) ∧ ((L.map (·.2)).Nodup → Q (.int L.length) H)) := by
  rintro pins s σ H vs us Q I r ⟨a, L, rfl, ha, hk, q⟩
  have R0 : SetT0 X.prog X.w s.heap a L := (I.hok a _ ha).1
  obtain ⟨es, ep, t, R⟩ := R0.full fun p hp => I.isT (hk p hp)
  obtain ⟨o, ho, hex, hd⟩ := R.ob
  have hf := R.few
  have hz := R.size
  rw [Vals.ref1 r]
  refine call_len_set ho hex hd R.fits (by omega) ⟨.int (es.size : Nat), H, I.tok _, ⟨s.toks + 1, rfl⟩, ?_⟩
  rw [hz]; exact q R.nd
theorem XV.lenT [TI α] [DecidableEq α] {e : Expr} {p : Pos} {m : Res (List α)} (hm : X.mg "len" = none) (he : XUT X W ρ e m) (hg : Gl X "len" := by rfl)
    (hs : starEach [e] X.env = [(false, eval e X.env)] := by rfl) : XV X W ρ (.Call (.Name "len" p) [e] [] pos) (do
    let xs ← m
    Res.ok ((dedup xs).length : Int)) := by
  refine PE.imp (pe_callB cr_lenTU hg hm (by rfl) (PA.imp (pa_cons he pa_nil hs) fun σ H Q (h : rdSt (srT X.prog X.w X.K α) X.N.length W ρ m σ H fun v H1 => Q [v] H1) => h) (by decide) (by decide) hs rfl) fun σ H Q ⟨F0, H0, F, R, p⟩ => ?_
  refine ⟨F0, H0, F, R, ?_⟩
  cases m with
  | exc c i => exact p
  | stuck => exact p
  | ok xs =>
    intro a F1 H1 L g fa na ha r
    have r : TRel X.K F1 L xs := r
    refine ⟨a, L, rfl, ha, fun p hp => sub_seqT g.fh (r.tp p hp).sq, fun nd => ?_⟩
    rw [r.count nd]
    exact p _ F1 H1 g (.int _)
end
end Vs
end
section
set_option Elab.async false
set_option linter.all false
set_option maxRecDepth 100000
set_option maxHeartbeats 2000000
/-! Vs25: comprehensions of two clauses. -/
namespace Vs
open Enc (toD)
open PySem PySem.Spec PyProof.Rows L2
section
variable {α β γ : Type} [Enc α] [Enc β] [Enc γ] {K : PySem.W.Frag} {n : Nat} {F0 H0 F1 F H F' H' : Hp} {σ : St} {ρ1 ρ : Rs} {D : Addr} {acc : List β}
theorem LcW.grow (L : LcW K n F0 H0 F1 σ ρ1 D F H acc) (g : Grow F H F' H') : LcW K n F0 H0 F1 σ ρ1 D F' H' acc := by
  obtain ⟨ws, e1, r1⟩ := L.lst
  exact ⟨L.R.grow g, L.sf.trans g.f, by rw [g.fn D (by rw [e1]; exact .lst)]; exact L.zf, L.z0, L.no, ws, g.h _ _ e1, r1.sub g.f⟩
theorem LcW.push (L : LcW K n F0 H0 F1 σ ρ1 D F H acc) {ws : List V} {u : V} {y : β} (e1 : H D = some (.lst ws)) (ru : Rp K F u (toD y)) : LcW K n F0 H0 F1 σ ρ1 D F (upd H D (.lst (ws ++ [u]))) (acc ++ [y]) := by
  obtain ⟨ws', e2, rw1⟩ := L.lst
  rw [e1] at e2; cases e2
  refine ⟨⟨L.R.len, ⟨L.R.base.f, fun b o q => ?_, fun b o q => ?_, L.R.base.fn⟩, L.R.sh, fun j d m => ?_, L.R.inj⟩, L.sf, L.zf, L.z0, L.no, ws ++ [u], upd_same, ?_⟩
  · rw [upd_ne (ne_of_none q L.z0)]; exact L.R.base.h b o q
  · rw [upd_ne (ne_of_none q L.zf)]; exact L.R.fh b o q
  · obtain ⟨a, e6, c6, z6⟩ := L.R.ow j d m
    have hne : a ≠ D := fun q => L.no j d m (by rw [e6, q])
    exact ⟨a, e6, ⟨c6.1, by rw [upd_ne hne]; exact c6.2⟩, z6⟩
  · rw [show (acc ++ [y]).map toD = acc.map toD ++ [toD y] by simp]
    exact rw1.append (.cons ru .nil)
theorem grow_push {G J : Hp} {ws : List V} (g : Grow G J F H) (hD : J D = none) (zf : F D = none) : Grow G J F (upd H D (.lst ws)) :=
  ⟨g.f, fun b o q => by rw [upd_ne (ne_of_none q hD)]; exact g.h b o q, fun b o q => by rw [upd_ne (ne_of_none q zf)]; exact g.fh b o q, g.fn⟩
theorem lc2C_cons (t : α → Res Bool) (g : α → Res (List β)) (x : α) (xs : List α) : lc2C t g (x :: xs) = (noX (t x) >>= fun b => if b then noX (g x) >>= fun y => lc2C t g xs >>= fun ys => .ok (y ++ ys) else lc2C t g xs) := rfl
theorem lc2C_no {t : α → Res Bool} {f : α → Res (List β)} : ∀ {xs : List α} {c : Str} {i : Int}, lc2C t f xs ≠ .exc c i
  | [], _, _, h => by cases h
  | x :: xs, c, i, h => by
    rw [lc2C_cons] at h
    cases e : noX (t x) with
    | exc c' i' => exact noX_no e
    | stuck => rw [e] at h; cases h
    | ok b =>
      rw [e] at h
      cases b with
      | false => exact lc2C_no h
      | true =>
        cases e2 : noX (f x) with
        | exc c' i' => exact noX_no e2
        | stuck => simp only [Res.ok_bind, if_true, e2] at h; cases h
        | ok y =>
          simp only [Res.ok_bind, if_true, e2] at h
          cases e3 : lc2C t f xs with
          | exc c' i' => exact lc2C_no e3
          | stuck => rw [e3] at h; cases h
          | ok ys => rw [e3] at h; cases h
end
section
variable {α β γ : Type} [Enc α] [Enc β] [Enc γ] {W : WX} {ρ : Rs}
def isSh : SV → Bool
  | .sh _ => true
  | .ow _ => false
theorem noX_is {α : Type} {m : Res α} {a : α} (h : noX m = .ok a) : m = .ok a := by cases m <;> first | exact h | cases h
/-- the reading of a comprehension of two clauses -/
theorem lc2_read {K : PySem.W.Frag} {n : Nat} {is is1 : List Nat} {ρ1 : Rs} {ρb : α → Rs} {ρ2 : α → Rs} {ρc : α → γ → Rs} {mi : Res (List α)} {mt : α → Res Bool} {mj : α → Res (List γ)} {mu : α → γ → Res Bool} {me : α → γ → Res β} {vs vs1 : List Nat} {σ : St} {H : Hp} {Q : VK}
    (his : ∀ j ∈ is, j ∈ vs) (his1 : ∀ j ∈ is1, j ∈ vs1) (hvs : ∀ j ∈ vs1, j ∈ vs) (w1 : ∀ p ∈ ρ1, p ∈ ρ ∧ p.1 ∉ vs) (w2 : ∀ x, ∀ p ∈ ρ2 x, p ∈ ρb x ∧ p.1 ∉ vs1) (w3 : ∀ x j e, (j, SV.ow e) ∈ ρ2 x → (j, SV.ow e) ∈ ρ1) (h : rdF K n W ρ ((do
    let xs ← mi
    lc2R mt mj mu me xs).map toD) σ H Q) :
    tLc2 (rdI K n W ρ (mi.map fun xs => xs.map toD)) (fun v σ H Q => ∃ x, rdG K n is ρ1 (toD x) (ρb x) v σ H Q) (fun σ H Q => ∃ x, rdT K n W0 (ρb x) (mt x) σ H Q)
      (fun σ H R => ∃ x, rdI K n W0 (ρb x) ((mj x).map fun xs => xs.map toD) σ H R) (fun v σ H Q => ∃ z : α × γ, rdG K n is1 (ρ2 z.1) (toD z.2) (ρc z.1 z.2) v σ H Q) (fun σ H Q => ∃ z : α × γ, rdT K n W0 (ρc z.1 z.2) (mu z.1 z.2) σ H Q)
      (fun σ H Q => ∃ z : α × γ, rdV K n W0 (ρc z.1 z.2) ((me z.1 z.2).map toD) σ H Q) vs vs1 σ H Q := by
  obtain ⟨F0, H0, F, R, p⟩ := h
  refine ⟨F0, H0, F, R, ?_⟩
  cases mi with
  | exc c i => exact p
  | stuck => exact p
  | ok xs =>
    intro J F1 H1 g it hz D nD
    have p1 : PostF K W F H ((lc2R mt mj mu me xs).map toD) Q := p
    unfold lc2R at p1
    cases el : lc2C mt (fun x => mj x >>= fun zs => lcR (mu x) (me x) zs) xs with
    | exc c i => exact absurd el lc2C_no
    | stuck => rw [el] at p1; exact p1.elim
    | ok out =>
      rw [el, Res.ok_bind] at p1
      unfold mkL at p1
      by_cases hout : out.length ≤ lim
      · rw [if_pos hout] at p1
        have hout' : out.length ≤ sizeLine := by rw [← lim_line]; exact hout
        have R1 : Rho K n F0 H0 F1 H1 (wipe σ vs) ρ1 := (R.grow g).wipe w1
        have z0 : H0 D = none := sub_free R.base.h (sub_free g.h nD)
        have hDn : H D = none := sub_free g.h nD
        refine ⟨fun i m H' => ∃ F' acc zs, m = xs.length - i ∧ i ≤ xs.length ∧ LcW K n F0 H0 F1 (wipe σ vs) ρ1 D F' H' acc ∧ lc2C mt (fun x => mj x >>= fun zs => lcR (mu x) (me x) zs) (xs.drop i) = .ok zs ∧ acc ++ zs = out ∧ Grow F H F' H',
          ⟨xs.length, F1, [], out, by simp, Nat.zero_le _, ⟨R1.grow (.own R1.fh nD), fun _ _ e => e, sub_free R1.fh nD, z0, fun j e m q => ?_, [], upd_same, .nil⟩, el, rfl, g.trans (.own g.fh nD)⟩, ?_⟩
        · obtain ⟨a, e1, c1, _⟩ := R1.ow j e m
          rw [q] at e1; cases e1
          exact c1.there nD
        · rintro i m H2 ⟨F2, acc, zs, rfl, hi2, L, e2, eo, g2⟩
          by_cases hlt : i < xs.length
          · have ex : xs[i]? = some xs[i] := List.getElem?_eq_getElem hlt
            generalize xs[i] = x at ex
            rw [drop_cons ex, lc2C_cons] at e2
            obtain ⟨b, eb, e2⟩ := Res.eq_ok_of_bind e2
            refine .inr ⟨it.go i F2 H2 L.sf L.R.fh (by simpa using hlt), fun H' => ∃ F' acc zs, LcW K n F0 H0 F1 (wipe σ vs) ρ1 D F' H' acc ∧ lc2C mt (fun x => mj x >>= fun zs => lcR (mu x) (me x) zs) (xs.drop (i + 1)) = .ok zs ∧ acc ++ zs = out ∧ Grow F H F' H',
              fun H' ⟨F', acc', zs', L', e', eo', g'⟩ => ⟨xs.length - (i + 1), by omega, F', acc', zs', rfl, hlt, L', e', eo', g'⟩, fun v H3 y => ?_⟩
            obtain ⟨F3, g3, r3⟩ := it.yld i F2 H2 (toD x) v H3 L.sf L.R.fh (by rw [List.getElem?_map, ex]; rfl) y
            refine ⟨x, F0, H0, F3, L.R.grow g3, r3, fun σ4 R4 k4 => ⟨?_, x, F0, H0, F3, R4, ?_⟩⟩
            · rw [wipe_eq (σ := wipe σ vs) (by rw [R4.len, L.R.len]) fun j hj => k4 j fun hm => hj (his j hm)]
              exact wipe_eq (by rw [wipe_length]) fun j hj => by rw [wipe_at, if_neg hj]
            · have et := noX_is eb
              rw [et]
              intro F4 H4 g4
              cases b with
              | false => exact ⟨F4, acc, zs, L.grow (g3.trans g4), e2, eo, g2.trans (g3.trans g4)⟩
              | true =>
                simp only [if_true] at e2
                obtain ⟨part, ey, e2⟩ := Res.eq_ok_of_bind e2
                obtain ⟨zs', ez, e2⟩ := Res.eq_ok_of_bind e2
                cases e2
                obtain ⟨js, ej, ep⟩ := Res.eq_ok_of_bind (noX_is ey)
                refine ⟨x, F0, H0, F4, R4.grow g4, ?_⟩
                rw [ej]
                intro J1 F5 H5 g5 it1 hz1
                have L5 := L.grow ((g3.trans g4).trans g5)
                have RI : Rho K n F0 H0 F5 H5 (wipe σ4 vs1) (ρ2 x) := ((R4.grow g4).grow g5).wipe (w2 x)
                have LI : LcW K n F0 H0 F5 (wipe σ4 vs1) (ρ2 x) D F5 H5 acc := ⟨RI, fun _ _ e => e, L5.zf, z0, fun j e m q => by
                  obtain ⟨a, e1, c1, z1⟩ := RI.ow j e m
                  rw [q] at e1; cases e1
                  have m1 := w3 x j e m
                  obtain ⟨_, nv⟩ := w1 _ m1
                  have q4 : σ4[j]? = some (some (.ref D)) := by rw [← wipe_out (w2 x _ m).2]; exact q
                  rw [k4 j fun hm => nv (his j hm)] at q4
                  exact L.no j e m1 q4, L5.lst⟩
                have g5' := g2.trans ((g3.trans g4).trans g5)
                refine ⟨fun j k H' => ∃ F' a1 ws, k = js.length - j ∧ j ≤ js.length ∧ LcW K n F0 H0 F1 (wipe σ vs) ρ1 D F' H' (acc ++ a1) ∧ LcW K n F0 H0 F5 (wipe σ4 vs1) (ρ2 x) D F' H' (acc ++ a1) ∧ lcR (mu x) (me x) (js.drop j) = .ok ws ∧ a1 ++ ws = part ∧ Grow F H F' H',
                  ⟨js.length, F5, [], part, by simp, Nat.zero_le _, by rw [List.append_nil]; exact L5, by rw [List.append_nil]; exact LI, ep, rfl, g5'⟩, ?_⟩
                rintro j k H6 ⟨F6, a1, ws, rfl, hj, L6, LI6, e6, eo6, g6⟩
                by_cases hjl : j < js.length
                · have ejx : js[j]? = some js[j] := List.getElem?_eq_getElem hjl
                  generalize js[j] = z at ejx
                  rw [drop_cons ejx, lcR_cons] at e6
                  obtain ⟨b1, eb1, e6⟩ := Res.eq_ok_of_bind e6
                  refine .inr ⟨it1.go j F6 H6 LI6.sf LI6.R.fh (by simpa using hjl), fun H' => ∃ F' a1 ws, LcW K n F0 H0 F1 (wipe σ vs) ρ1 D F' H' (acc ++ a1) ∧ LcW K n F0 H0 F5 (wipe σ4 vs1) (ρ2 x) D F' H' (acc ++ a1) ∧ lcR (mu x) (me x) (js.drop (j + 1)) = .ok ws ∧ a1 ++ ws = part ∧ Grow F H F' H',
                    fun H' ⟨F', a1', ws', x1, x2, x3, x4, x5⟩ => ⟨js.length - (j + 1), by omega, F', a1', ws', rfl, hjl, x1, x2, x3, x4, x5⟩, fun v1 H7 y1 => ?_⟩
                  obtain ⟨F7, g7, r7⟩ := it1.yld j F6 H6 (toD z) v1 H7 LI6.sf LI6.R.fh (by rw [List.getElem?_map, ejx]; rfl) y1
                  refine ⟨(x, z), F0, H0, F7, LI6.R.grow g7, r7, fun σ8 R8 k8 => ⟨?_, (x, z), F0, H0, F7, R8, ?_⟩⟩
                  · rw [wipe_eq (σ := wipe σ4 vs1) (by rw [R8.len, LI6.R.len]) fun j hj => k8 j fun hm => hj (his1 j hm)]
                    exact wipe_eq (by rw [wipe_length]) fun j hj => by rw [wipe_at, if_neg hj]
                  · dsimp only
                    rw [noX_is eb1]
                    intro F8 H8 g8
                    cases b1 with
                    | false => exact ⟨F8, a1, ws, L6.grow (g7.trans g8), LI6.grow (g7.trans g8), e6, eo6, g6.trans (g7.trans g8)⟩
                    | true =>
                      simp only [if_true] at e6
                      obtain ⟨y', ey1, e6⟩ := Res.eq_ok_of_bind e6
                      obtain ⟨ws', ez1, e6⟩ := Res.eq_ok_of_bind e6
                      cases e6
                      refine ⟨(x, z), F0, H0, F8, R8.grow g8, ?_⟩
                      dsimp only
                      rw [noX_is ey1]
                      intro u F9 H9 g9 r9
                      have L9 := L6.grow ((g7.trans g8).trans g9)
                      have LI9 := LI6.grow ((g7.trans g8).trans g9)
                      obtain ⟨us, e9, ru⟩ := L9.lst
                      have hlen : us.length = (acc ++ a1).length := by rw [ru.length, List.length_map]
                      refine ⟨us, e9, ?_, F9, a1 ++ [y'], ws', by rw [← List.append_assoc]; exact L9.push e9 r9, by rw [← List.append_assoc]; exact LI9.push e9 r9, ez1, by rw [List.append_assoc]; exact eo6, grow_push (g6.trans ((g7.trans g8).trans g9)) hDn L9.zf⟩
                      rw [hlen]
                      have : (acc ++ a1).length + 1 ≤ out.length := by
                        rw [← eo, ← eo6]; simp only [List.length_append, List.length_cons]; omega
                      omega
                · have e : j = js.length := by omega
                  subst e
                  rw [List.drop_length] at e6
                  cases e6
                  rw [List.append_nil] at eo6
                  subst eo6
                  exact .inl ⟨it1.stop _ F6 H6 LI6.sf LI6.R.fh (by simp), F6, acc ++ a1, zs', L6, ez, by rw [List.append_assoc]; exact eo, g6⟩
          · have e : i = xs.length := by omega
            subst e
            rw [List.drop_length] at e2
            cases e2
            rw [List.append_nil] at eo
            subst eo
            obtain ⟨ws, e1, rw1⟩ := L.lst
            exact .inl ⟨it.stop _ F2 H2 L.sf L.R.fh (by simp), p1 D F2 H2 g2 hDn ⟨L.zf, .inl ⟨ws, _, e1, rw1, rfl⟩⟩⟩
      · rw [if_neg hout] at p1; exact p1.elim
end
section
variable {X : Cx} {W : WX} {ρ : Rs} {pos : Pos} {α β γ δ S τ Ω : Type} [Enc α] [Enc β] [Enc γ] [Enc δ]
theorem shs_of {ρ1 ρ2 : Rs} {k : Nat} {ks : List Nat} (h1 : ((ρ2.take k).all fun p => isSh p.2) = true) (h2 : ρ2.drop k = keepAt ρ1 ks) {j : Nat} {e : PyData} (m : (j, SV.ow e) ∈ ρ2) : (j, SV.ow e) ∈ ρ1 := by
  rw [← List.take_append_drop k ρ2] at m
  rcases List.mem_append.mp m with m | m
  · have := List.all_eq_true.mp h1 _ m
    cases this
  · rw [h2] at m; exact keep_mem m
/-- [elt for tg in iter if .. for tg1 in iter1 if ..] -/
theorem XF.lc2 {elt tg iter tg1 iter1 : Expr} {ifs ifs1 : List Expr} {scope : Scope} {is is1 : List Nat} (own : List (Str × Nat)) (vs1 ks ks2 : List Nat) (k3 : Nat) (ks3 : List Nat) {mi : Res (List α)} {mt : α → Res Bool} {mj : α → Res (List γ)} {mu : α → γ → Res Bool} {me : α → γ → Res β} (ρ1 : Rs) (ρb ρ2 : α → Rs) (ρc : α → γ → Rs)
    (hc : X.calm = true) (hN : X.N.Nodup) (hi : XI X W ρ tg iter mi) (ok : blkC X.N X.env.scope scope own = true)
    (hg : ∀ x (s : Shared) (H : Hp) (C : Addr) (cl : List (Str × Addr)) (fp : List Addr), XG (X.blk s H scope (compEnvC scope cl C X.env) fp) is ρ1 tg (toD x) (ρb x))
    (ht : ∀ x (s : Shared) (H : Hp) (C : Addr) (cl : List (Str × Addr)) (fp : List Addr), XTs (X.blk s H scope (compEnvC scope cl C X.env) fp) W0 (ρb x) ifs (mt x))
    (hi1 : ∀ x (s : Shared) (H : Hp) (C : Addr) (cl : List (Str × Addr)) (fp : List Addr), XI (X.blk s H scope (compEnvC scope cl C X.env) fp) W0 (ρb x) tg1 iter1 (mj x))
    (hg1 : ∀ x z (s : Shared) (H : Hp) (C : Addr) (cl : List (Str × Addr)) (fp : List Addr), XG (X.blk s H scope (compEnvC scope cl C X.env) fp) is1 (ρ2 x) tg1 (toD z) (ρc x z))
    (ht1 : ∀ x z (s : Shared) (H : Hp) (C : Addr) (cl : List (Str × Addr)) (fp : List Addr), XTs (X.blk s H scope (compEnvC scope cl C X.env) fp) W0 (ρc x z) ifs1 (mu x z))
    (he : ∀ x z (s : Shared) (H : Hp) (C : Addr) (cl : List (Str × Addr)) (fp : List Addr), XV (X.blk s H scope (compEnvC scope cl C X.env) fp) W0 (ρc x z) elt (me x z))
    (hρ : ρ1 = keepAt ρ ks := by rfl) (ho : okK ρ (own.map (·.2)) ks = true := by rfl) (hρ2 : ∀ x, ρ2 x = keepAt (ρb x) ks2 := by intro _; rfl) (ho2 : ∀ x, okK (ρb x) vs1 ks2 = true := by intro _; rfl)
    (h31 : ∀ x, (((ρ2 x).take k3).all fun p => isSh p.2) = true := by intro _; rfl) (h32 : ∀ x, (ρ2 x).drop k3 = keepAt ρ1 ks3 := by intro _; rfl)
    (his : (is.all fun j => (own.map (·.2)).contains j) = true := by rfl) (his1 : (is1.all fun j => vs1.contains j) = true := by rfl) (hvs : (vs1.all fun j => (own.map (·.2)).contains j) = true := by rfl)
    (hs : ∀ x, foldedSetIterable iter X.env x = pure x := by intro _; rfl) (hs1 : ∀ env x, foldedSetIterable iter1 env x = pure x := by intro _ _; rfl) :
    XF X W ρ (.ListComp elt [⟨tg, iter, ifs, 0⟩, ⟨tg1, iter1, ifs1, 0⟩] scope pos) (do
    let xs ← mi
    lc2R mt mj mu me xs) :=
  PE.imp (pe_lc2 (vs1 := vs1) hc hN hi (blkOk_by ok) (fun i hi => by simpa [List.contains_iff_mem] using List.all_eq_true.mp hvs i hi) (fun s H C cl fp => PG.ex fun x => hg x s H C cl fp) (fun s H C cl fp => PTs.ex fun x => ht x s H C cl fp)
    (fun s H C cl fp => ⟨fun pins s' σ H' R I ⟨x, q⟩ => (hi1 x s H C cl fp).run pins s' σ H' R I q⟩) (fun s H C cl fp => PG.ex fun z : α × γ => hg1 z.1 z.2 s H C cl fp) (fun s H C cl fp => PTs.ex fun z : α × γ => ht1 z.1 z.2 s H C cl fp) (fun s H C cl fp => PE.ex fun z : α × γ => he z.1 z.2 s H C cl fp) hs hs1) fun σ H Q h =>
    lc2_read (is := is) (is1 := is1) (ρ1 := ρ1) (ρ2 := ρ2) (fun j hj => by simpa [List.contains_iff_mem] using List.all_eq_true.mp his j hj) (fun j hj => by simpa [List.contains_iff_mem] using List.all_eq_true.mp his1 j hj) (fun j hj => by simpa [List.contains_iff_mem] using List.all_eq_true.mp hvs j hj)
      (fun p hp => by rw [hρ] at hp; exact ⟨keep_mem hp, keep_ne hp ho⟩) (fun x p hp => by rw [hρ2 x] at hp; exact ⟨keep_mem hp, keep_ne hp (ho2 x)⟩) (fun x j e m => shs_of (h31 x) (h32 x) m) h
/-- name = [.. for .. for ..] -/
theorem XB.asgLc2 (i : Nat) {nm : Str} {py : Pos} {elt tg iter tg1 iter1 : Expr} {ifs ifs1 : List Expr} {scope : Scope} {is is1 : List Nat} (own : List (Str × Nat)) (vs1 ks ks2 : List Nat) (k3 : Nat) (ks3 ks4 : List Nat) {rest : List Stmt} {mi : Res (List α)} {mt : α → Res Bool} {mj : α → Res (List γ)} {mu : α → γ → Res Bool} {me : α → γ → Res β} {mr : List β → Res τ} {fin : τ → Fi} (ρ1 : Rs) (ρb ρ2 : α → Rs) (ρc : α → γ → Rs) (ρ' : List β → Rs)
    (hc : X.calm = true) (hN : X.N.Nodup) (hi : XI X W ρ tg iter mi) (ok : blkC X.N X.env.scope scope own = true)
    (hg : ∀ x (s : Shared) (H : Hp) (C : Addr) (cl : List (Str × Addr)) (fp : List Addr), XG (X.blk s H scope (compEnvC scope cl C X.env) fp) is ρ1 tg (toD x) (ρb x))
    (ht : ∀ x (s : Shared) (H : Hp) (C : Addr) (cl : List (Str × Addr)) (fp : List Addr), XTs (X.blk s H scope (compEnvC scope cl C X.env) fp) W0 (ρb x) ifs (mt x))
    (hi1 : ∀ x (s : Shared) (H : Hp) (C : Addr) (cl : List (Str × Addr)) (fp : List Addr), XI (X.blk s H scope (compEnvC scope cl C X.env) fp) W0 (ρb x) tg1 iter1 (mj x))
    (hg1 : ∀ x z (s : Shared) (H : Hp) (C : Addr) (cl : List (Str × Addr)) (fp : List Addr), XG (X.blk s H scope (compEnvC scope cl C X.env) fp) is1 (ρ2 x) tg1 (toD z) (ρc x z))
    (ht1 : ∀ x z (s : Shared) (H : Hp) (C : Addr) (cl : List (Str × Addr)) (fp : List Addr), XTs (X.blk s H scope (compEnvC scope cl C X.env) fp) W0 (ρc x z) ifs1 (mu x z))
    (he : ∀ x z (s : Shared) (H : Hp) (C : Addr) (cl : List (Str × Addr)) (fp : List Addr), XV (X.blk s H scope (compEnvC scope cl C X.env) fp) W0 (ρc x z) elt (me x z)) (hr : ∀ ys, XB X W (ρ' ys) rest (mr ys) fin)
    (hsw : swapsWith (.ListComp elt [⟨tg, iter, ifs, 0⟩, ⟨tg1, iter1, ifs1, 0⟩] scope pos) (some (.Name nm py)) pos.line X.env = pure true)
    (hρ : ρ1 = keepAt ρ ks := by rfl) (ho : okK ρ (own.map (·.2)) ks = true := by rfl) (hρ2 : ∀ x, ρ2 x = keepAt (ρb x) ks2 := by intro _; rfl) (ho2 : ∀ x, okK (ρb x) vs1 ks2 = true := by intro _; rfl)
    (h31 : ∀ x, (((ρ2 x).take k3).all fun p => isSh p.2) = true := by intro _; rfl) (h32 : ∀ x, (ρ2 x).drop k3 = keepAt ρ1 ks3 := by intro _; rfl)
    (his : (is.all fun j => (own.map (·.2)).contains j) = true := by rfl) (his1 : (is1.all fun j => vs1.contains j) = true := by rfl) (hvs : (vs1.all fun j => (own.map (·.2)).contains j) = true := by rfl)
    (hρ' : ∀ ys, ρ' ys = (i, SV.ow (toD ys)) :: keepAt ρ ks4 := by intro _; rfl) (ho' : okK ρ [i] ks4 = true := by rfl) (hi' : X.N[i]? = some nm := by rfl) (hyl : X.env.scope.names.lookup nm = some .local := by rfl)
    (hs : ∀ x, foldedSetIterable iter X.env x = pure x := by intro _; rfl) (hs1 : ∀ env x, foldedSetIterable iter1 env x = pure x := by intro _ _; rfl) {pos' : Pos} (hpos : pos'.line = pos.line := by rfl) :
    XB X W ρ (.Assign [.Name nm py] (.ListComp elt [⟨tg, iter, ifs, 0⟩, ⟨tg1, iter1, ifs1, 0⟩] scope pos) pos' :: rest) (do
    let xs ← mi
    let ys ← lc2R mt mj mu me xs
    mr ys) fin := by
  refine PSs.imp (pss_cons (ps_setLc2 (i := i) (own := own) (vs1 := vs1) hc hN hi' hyl (by rw [hpos]; exact hsw) hi (blkOk_by ok) (fun i hi => by simpa [List.contains_iff_mem] using List.all_eq_true.mp hvs i hi)
    (fun s H C cl fp => PG.ex (t := fun x => rdG X.K X.N.length is ρ1 (toD x) (ρb x)) fun x => hg x s H C cl fp) (fun s H C cl fp => PTs.ex (t := fun x => rdT X.K X.N.length W0 (ρb x) (mt x)) fun x => ht x s H C cl fp)
    (wi1 := fun σ H R => ∃ x, rdI X.K X.N.length W0 (ρb x) ((mj x).map fun xs => xs.map toD) σ H R)
    (fun s H C cl fp => ⟨fun pins s' σ H' R I ⟨x, q⟩ => (hi1 x s H C cl fp).run pins s' σ H' R I q⟩) (fun s H C cl fp => PG.ex (t := fun z : α × γ => rdG X.K X.N.length is1 (ρ2 z.1) (toD z.2) (ρc z.1 z.2)) fun z : α × γ => hg1 z.1 z.2 s H C cl fp) (fun s H C cl fp => PTs.ex (t := fun z : α × γ => rdT X.K X.N.length W0 (ρc z.1 z.2) (mu z.1 z.2)) fun z : α × γ => ht1 z.1 z.2 s H C cl fp)
    (fun s H C cl fp => PE.ex (t := fun z : α × γ => rdV X.K X.N.length W0 (ρc z.1 z.2) ((me z.1 z.2).map toD)) fun z : α × γ => he z.1 z.2 s H C cl fp) hs hs1) (PSs.ex hr)) fun D σ H ⟨F0, H0, F, R, p⟩ => ?_
  have p1 : PostS X.K X.N.length W F0 H0 F ((mi >>= fun xs => lc2R mt mj mu me xs) >>= mr) fin D := by
    rw [Res.bind_assoc']; exact p
  unfold tSeq tAsg
  refine lc2_read (W := W) (ρ := ρ) (ρ1 := ρ1) (is := is) (is1 := is1) (ρb := ρb) (ρ2 := ρ2) (ρc := ρc) (mi := mi) (mt := mt) (mj := mj) (mu := mu) (me := me) (vs := own.map (·.2)) (vs1 := vs1) (fun j hj => by simpa [List.contains_iff_mem] using List.all_eq_true.mp his j hj) (fun j hj => by simpa [List.contains_iff_mem] using List.all_eq_true.mp his1 j hj) (fun j hj => by simpa [List.contains_iff_mem] using List.all_eq_true.mp hvs j hj)
    (fun p hp => by rw [hρ] at hp; exact ⟨keep_mem hp, keep_ne hp ho⟩) (fun x p hp => by rw [hρ2 x] at hp; exact ⟨keep_mem hp, keep_ne hp (ho2 x)⟩) (fun x j e m => shs_of (h31 x) (h32 x) m) ⟨F0, H0, F, R, ?_⟩
  have q := PostS.bindF R p1
  cases em : (mi >>= fun xs => lc2R mt mj mu me xs) with
  | exc c i => rw [em] at q; exact q
  | stuck => rw [em] at q; exact q
  | ok ys =>
    rw [em] at p1
    intro a F1 H1 g z c
    refine ⟨ys, F0, H0, F1, ?_, PostS.sub g.f p1⟩
    refine (R.grow g).setO (List.getElem?_eq_some_iff.mp hi').1 c (sub_free R.base.h z) (fun j e m hj q => ?_) (by rw [hρ']; exact put_w ho')
    obtain ⟨b, e1, c1, _⟩ := R.ow j e m
    rw [q] at e1; cases e1
    exact c1.there z
end
end Vs
end
section
set_option Elab.async false
set_option linter.all false
set_option maxRecDepth 100000
set_option maxHeartbeats 2000000
/-! Vs26: constants that are tuples; dicts with tuples as keys; d.get, d.items. -/
namespace Vs
open Enc (toD)
open PySem PySem.Spec PyProof.Rows L2
/-! ### a constant tuple -/
theorem RpH.ctup_of {K : PySem.W.Frag} {F H : Hp} {v : V} {α : Type} [Enc α] {c : CTup α} (r : RpH K F H v (toD c)) : ∃ a vs, v = .ref a ∧ TpC K a vs ∧ RpAll K F vs (c.l.map toD) := by
  rcases r with r | ⟨a, e, q⟩
  · cases r with
    | ctup h1 h2 => exact ⟨_, _, rfl, h1, h2⟩
  · obtain ⟨_, ⟨_, _, _, _, z⟩ | ⟨_, _, _, _, z⟩ | ⟨_, _, _, _, z⟩⟩ := q <;> cases z
class FlatE (α : Type) [Enc α] [DecidableEq α] : Prop where
  fl : ∀ {K : PySem.W.Frag} {F : Hp} {v : V} {x : α}, Rp K F v (toD x) → flatV v = true
  eq : ∀ {K : PySem.W.Frag} {F : Hp} {v u : V} {x y : α}, Rp K F v (toD x) → Rp K F u (toD y) → eqV u v = decide (y = x)
instance : FlatE Int := ⟨fun r => by rw [r.int_of]; rfl, fun r q => by rw [r.int_of, q.int_of]; first | rfl | (simp [eqV])⟩
section
variable {X : Cx} {W : WX} {ρ : Rs} {pos : Pos} {α β γ δ S τ Ω : Type} [Enc α] [Enc β] [Enc γ] [Enc δ]
theorem XV.globC {x : Str} {a : Addr} {c : CTup α} {vs : List V} (hm : X.mg x = some (.ref a)) (hT : TpC X.K a vs) (hr : ∀ F, RpAll X.K F vs (c.l.map toD)) (hg : Gl X x := by rfl) (hd : (x == ("__debug__" : Str)) = false := by decide) : XV X W ρ (.Name x pos) (.ok c) :=
  XV.glob hg hm (show RelV (.ref a) (.ref a) from rfl) (fun F => .ctup hT (hr F)) hd
theorem in_any [DecidableEq α] [FlatE α] {K : PySem.W.Frag} {F : Hp} {v : V} {x : α} (r : Rp K F v (toD x)) : ∀ {vs : List V} {xs : List α}, RpAll K F vs (xs.map toD) → inV v vs = decide (x ∈ xs) ∧ vs.all flatV = true
  | _, [], q => by cases q; simp [inV]
  | _, y :: xs, q => by
    rw [List.map_cons] at q
    cases q with
    | cons q1 q2 =>
      obtain ⟨h1, h2⟩ := in_any r q2
      unfold inV at h1 ⊢
      rw [List.any_cons, h1, List.all_cons, FlatE.fl q1, h2, FlatE.eq r q1]
      refine ⟨?_, rfl⟩
      rw [← Bool.decide_or]
      exact decide_eq_decide.mpr (by rw [List.mem_cons]; exact or_congr ⟨Eq.symm, Eq.symm⟩ Iff.rfl)
theorem RpH.flat_of [DecidableEq α] {K : PySem.W.Frag} {F H : Hp} {v : V} {x : α} (hx : ∀ ds, toD x ≠ .list ds) (hx2 : ∀ ds, toD x ≠ .dict ds) (r : RpH K F H v (toD x)) : Rp K F v (toD x) := by
  rcases r with r | ⟨a, e, q⟩
  · exact r
  · obtain ⟨_, ⟨_, _, _, _, z⟩ | ⟨_, _, _, _, z⟩ | ⟨_, _, _, _, z⟩⟩ := q
    · exact absurd z (hx _)
    · exact absurd z (hx2 _)
    · exact absurd z (hx2 _)
theorem c_inC : CmpOk X .In (fun (a : Int) (xs : CTup Int) => decide (a ∈ xs.l)) :=
  OpR.imp op_in_seq fun vx vy H Q ⟨F, x, y, s, r1, r2, q⟩ => by
    have r1 := RpH.flat_of (x := x) (fun _ e => by cases e) (fun _ e => by cases e) r1
    obtain ⟨a, vs, rfl, h1, h2⟩ := r2.ctup_of
    obtain ⟨h3, h4⟩ := in_any r1 h2
    refine ⟨a, vs, rfl, .inr (h1 H), FlatE.fl r1, h4, ?_⟩
    show Q (.bl (inV vx vs)) H
    rw [h3]; exact q
theorem c_notinC : CmpOk X .NotIn (fun (a : Int) (xs : CTup Int) => !decide (a ∈ xs.l)) :=
  OpR.imp op_notIn_seq fun vx vy H Q ⟨F, x, y, s, r1, r2, q⟩ => by
    have r1 := RpH.flat_of (x := x) (fun _ e => by cases e) (fun _ e => by cases e) r1
    obtain ⟨a, vs, rfl, h1, h2⟩ := r2.ctup_of
    obtain ⟨h3, h4⟩ := in_any r1 h2
    refine ⟨a, vs, rfl, .inr (h1 H), FlatE.fl r1, h4, ?_⟩
    show Q (.bl (!inV vx vs)) H
    rw [h3]; exact q
theorem b_lenC : C1 X (.builtin "len") (fun xs : CTup α => Res.ok (lenL xs.l)) := ⟨CallR.imp call_len_seq fun vs H Q ⟨F, x, z, v, s, e, r, ez, q⟩ => by
  cases ez
  obtain ⟨a, us, rfl, h1, h2⟩ := r.ctup_of
  refine ⟨a, us, e, .inr (h1 H), ?_⟩
  have := q (.int (lenL x.l)) F H (.refl s) (.int _)
  unfold lenL at this
  rw [h2.length, List.length_map]
  exact this, fun _ _ _ e => by cases e⟩
end
/-! ### tuples as keys -/
class KeyT (κ : Type) [Enc κ] [DecidableEq κ] [DKey κ] where
  key : κ → List Key
  enc : ∀ k : κ, toD k = .tuple ((key k).map keyD)
  inj : ∀ a b : κ, key a = key b → a = b
  tk : DKey.tk κ = true
instance : KeyT (Tup Int) := ⟨fun k => k.l.map .inl, fun k => by show PyData.tuple (k.l.map toD) = _; rw [List.map_map]; rfl, fun a b h => by
  cases a; cases b
  exact congrArg Tup.mk (List.map_inj_right (fun x y e => by cases e; rfl) |>.mp h), rfl⟩
instance : KeyT (Int × Int) := ⟨fun k => [.inl k.1, .inl k.2], fun k => rfl, fun a b h => by cases a; cases b; cases h; rfl, rfl⟩
instance : KeyT (T3 Int Int Int) := ⟨fun k => [.inl k.a, .inl k.b, .inl k.c], fun k => rfl, fun a b h => by cases a; cases b; cases h; rfl, rfl⟩
instance : KeyT (PStr × Int) := ⟨fun k => [.inr k.1.1, .inl k.2], fun k => rfl, fun a b h => by
  obtain ⟨⟨a, _⟩, _⟩ := a; obtain ⟨⟨b, _⟩, _⟩ := b; cases h; rfl, rfl⟩
section
variable {κ α : Type} [Enc κ] [DecidableEq κ] [DKey κ] [Enc α] [KeyT κ] {K : PySem.W.Frag} {F H : Hp}
theorem dict_encT (d : Dict κ α) : toD d = .dict ((.bool true, .none) :: encP d.l) := by
  show PyData.dict ((.bool (DKey.tk κ), .none) :: _) = _
  rw [KeyT.tk]
theorem keyDs_inj {a b : List Key} (h : a.map keyD = b.map keyD) : a = b := (List.map_inj_right fun x y e => keyD_inj e).mp h
theorem rp_keys {F : Hp} : ∀ {vs : List V} {ks : List Key}, RpAll K F vs (ks.map keyD) → vs = ks.map kV
  | _, [], r => by cases r; rfl
  | _, .inl i :: ks, r => by
    rw [List.map_cons] at r
    cases r with
    | cons r1 r2 => rw [rp_keys r2, Rp.int_of (i := i) r1]; rfl
  | _, .inr x :: ks, r => by
    rw [List.map_cons] at r
    cases r with
    | cons r1 r2 => rw [rp_keys r2, Rp.str_of (i := x) r1]; rfl
theorem keys_rp {F : Hp} : ∀ ks : List Key, RpAll K F (ks.map kV) (ks.map keyD)
  | [] => .nil
  | .inl i :: ks => .cons (.int i) (keys_rp ks)
  | .inr x :: ks => .cons (.str x) (keys_rp ks)
theorem key_vT {v : V} {k : κ} (r : Rp K F v (toD k)) : ∃ b, v = .ref b ∧ F b = some (.tup ((KeyT.key k).map kV)) := by
  rw [KeyT.enc] at r
  obtain ⟨a, xs, e, h1, h2⟩ := r.tup_at
  have q := rp_keys h2
  subst q
  exact ⟨a, e, h1⟩
theorem rpt_cons {kvs : List (List Key × V)} {p : κ × α} {l : List (κ × α)} (r : RpT K F kvs (encP (p :: l))) : ∃ v rest, kvs = (KeyT.key p.1, v) :: rest ∧ Rp K F v (toD p.2) ∧ RpT K F rest (encP l) := by
  have r' : RpT K F kvs ((toD p.1, toD p.2) :: encP l) := r
  rw [KeyT.enc] at r'
  generalize ek : (KeyT.key p.1).map keyD = kd at r'
  cases r' with
  | @cons k v rest d ds h1 h2 => exact ⟨v, rest, by rw [keyDs_inj ek], h1, h2⟩
theorem rpt_mk {v : V} {rest : List (List Key × V)} {p : κ × α} {l : List (κ × α)} (h1 : Rp K F v (toD p.2)) (h2 : RpT K F rest (encP l)) : RpT K F ((KeyT.key p.1, v) :: rest) (encP (p :: l)) := by
  show RpT K F _ ((toD p.1, toD p.2) :: encP l)
  rw [KeyT.enc]
  exact .cons h1 h2
theorem rpt_nil {kvs : List (List Key × V)} (r : RpT K F kvs (encP ([] : List (κ × α)))) : kvs = [] := by cases r; rfl
theorem rpt_keys : ∀ {kvs : List (List Key × V)} {l : List (κ × α)}, RpT K F kvs (encP l) → kvs.map (·.1) = l.map fun p => KeyT.key p.1
  | _, [], r => by rw [rpt_nil r]; rfl
  | _, p :: l, r => by
    obtain ⟨v, rest, rfl, _, h2⟩ := rpt_cons r
    rw [List.map_cons, List.map_cons, rpt_keys h2]
theorem rpt_len {kvs : List (List Key × V)} {l : List (κ × α)} (r : RpT K F kvs (encP l)) : kvs.length = l.length := by
  simpa using congrArg List.length (rpt_keys r)
theorem rpt_val (k : κ) : ∀ {kvs : List (List Key × V)} {l : List (κ × α)}, RpT K F kvs (encP l) → match valP l k with
    | some x => ∃ v, valV kvs (KeyT.key k) = some v ∧ Rp K F v (toD x)
    | none => valV kvs (KeyT.key k) = none
  | _, [], r => by rw [rpt_nil r]; rfl
  | _, p :: l, r => by
    obtain ⟨v, rest, rfl, h1, h2⟩ := rpt_cons r
    have ih := rpt_val k h2
    unfold valP at ih ⊢
    rw [List.find?_cons]
    by_cases h : p.1 = k
    · simp only [h, decide_true, Option.map_some]
      exact ⟨v, valV_pos (by first | rfl | rw [h] | rw [← h]), h1⟩
    · have hn : ¬ KeyT.key p.1 = KeyT.key k := fun e => h (KeyT.inj _ _ e)
      simp only [h, decide_false]
      rw [valV_neg hn]
      exact ih
theorem rpt_any (k : κ) : ∀ {kvs : List (List Key × V)} {l : List (κ × α)}, RpT K F kvs (encP l) → (kvs.any fun kv => decide (kv.1 = KeyT.key k)) = l.any fun p => decide (p.1 = k)
  | _, [], r => by rw [rpt_nil r]; rfl
  | _, p :: l, r => by
    obtain ⟨v, rest, rfl, h1, h2⟩ := rpt_cons r
    rw [List.any_cons, List.any_cons, rpt_any k h2]
    congr 1
    exact decide_eq_decide.mpr ⟨fun e => KeyT.inj _ _ e, fun e => congrArg _ e⟩
theorem rpt_put (k : κ) (x : α) {v : V} {kvs : List (List Key × V)} {l : List (κ × α)} (rv : Rp K F v (toD x)) (r : RpT K F kvs (encP l)) : RpT K F (putK kvs (KeyT.key k) v) (encP (putP l k x)) := by
  unfold putK putP
  rw [rpt_any k r]
  split
  · have : ∀ {kvs : List (List Key × V)} {l : List (κ × α)}, RpT K F kvs (encP l) → RpT K F (kvs.map fun kv => if kv.1 = KeyT.key k then (kv.1, v) else kv) (encP (l.map fun p => if p.1 = k then (p.1, x) else p)) := by
      intro kvs l r
      induction l generalizing kvs with
      | nil => rw [rpt_nil r]; exact .nil
      | cons p l ih =>
        obtain ⟨u, rest, rfl, h1, h2⟩ := rpt_cons r
        rw [List.map_cons, List.map_cons]
        by_cases h : p.1 = k
        · rw [if_pos (by rw [h]), if_pos h]; exact rpt_mk (p := (p.1, x)) rv (ih h2)
        · rw [if_neg (fun e => h (KeyT.inj _ _ e)), if_neg h]; exact rpt_mk (p := p) h1 (ih h2)
    exact this r
  · have : ∀ {kvs : List (List Key × V)} {l : List (κ × α)}, RpT K F kvs (encP l) → RpT K F (kvs ++ [(KeyT.key k, v)]) (encP (l ++ [(k, x)])) := by
      intro kvs l r
      induction l generalizing kvs with
      | nil => rw [rpt_nil r]; exact rpt_mk (p := (k, x)) rv (show RpT K F [] (encP ([] : List (κ × α))) from .nil)
      | cons p l ih =>
        obtain ⟨u, rest, rfl, h1, h2⟩ := rpt_cons r
        exact rpt_mk (p := p) h1 (ih h2)
    exact this r
theorem RpH.dt_of {v : V} {d : Dict κ α} (s : Sub F H) (r : RpH K F H v (toD d)) : ∃ a kvs, v = .ref a ∧ Rd H a (.dT kvs) ∧ RpT K F kvs (encP d.l) := by
  rw [dict_encT] at r
  rcases r with r | ⟨a, e, c⟩
  · cases r with
    | @dt a o kvs ds h1 h2 => exact ⟨a, kvs, rfl, .inr ⟨o, s _ _ h1⟩, h2⟩
  · obtain ⟨_, ⟨_, _, _, _, q⟩ | ⟨_, _, _, _, q⟩ | ⟨kvs, ds, h1, h2, q⟩⟩ := c <;> cases q
    exact ⟨a, kvs, e, .inl h1, h2⟩
theorem Rp.dt_of {v : V} {d : Dict κ α} (r : Rp K F v (toD d)) : ∃ a o kvs, v = .ref a ∧ F a = some (.frz o (.dT kvs)) ∧ RpT K F kvs (encP d.l) := by
  rw [dict_encT] at r
  cases r with
  | @dt a o kvs ds h1 h2 => exact ⟨a, o, kvs, rfl, h1, h2⟩
end
section
variable {X : Cx} {W : WX} {ρ : Rs} {pos : Pos} {κ α β γ δ S τ Ω : Type} [Enc κ] [DecidableEq κ] [DKey κ] [KeyT κ] [Enc α] [Enc β] [Enc γ] [Enc δ]
/-- d[k] -/
theorem XV.dgetT {o i : Expr} {mo : Res (Dict κ α)} {mk : Res κ} (hu : X.A.units + 64 < cLine) (ho : XW X W ρ o mo) (hi : XV X W ρ i mk) (hs : NoSl i := by intro _ _; rfl) : XV X W ρ (.Subscript o i pos) (do
    let d ← mo
    let k ← mk
    d.getR k) := by
  refine PE.imp (pe_dget (by omega) ho hi hs) fun σ H Q ⟨F0, H0, F, R, p⟩ => ⟨F0, H0, F, R, ?_⟩
  cases mo with
  | exc c i => exact p
  | stuck => exact p
  | ok d =>
    intro v F1 H1 g1 r1
    refine ⟨F0, H0, F1, R.grow g1, ?_⟩
    have p1 := PostV.grow g1 p
    cases mk with
    | exc c i => exact p1
    | stuck => exact p1
    | ok k =>
      intro u F2 H2 g2 r2
      have p2 : PostV X.K W F2 H2 ((d.getR k).map toD) Q := PostV.grow g2 p1
      obtain ⟨a, kvs, rfl, h1, h2⟩ := (r1.grow g2).dt_of g2.fh
      obtain ⟨b, rfl, hb⟩ := key_vT r2
      have q := rpt_val k h2
      unfold Dict.getR at p2
      cases e : valP d.l k with
      | none => rw [e] at p2; exact p2.elim
      | some x =>
        rw [e] at p2 q
        obtain ⟨w, e1, e2⟩ := q
        exact ⟨a, w, rfl, .inr ⟨kvs, _, b, h1, rfl, g2.fh _ _ hb, e1.symm⟩, p2 w F2 H2 (.refl g2.fh) e2⟩
theorem rp_keyT {K : PySem.W.Frag} {F H : Hp} {v : V} {k : κ} (r : RpH K F H v (toD k)) : Rp K F v (toD k) := by
  rcases r with r | ⟨b, e, c⟩
  · exact r
  · rw [KeyT.enc] at c
    obtain ⟨_, ⟨_, _, _, _, z⟩ | ⟨_, _, _, _, z⟩ | ⟨_, _, _, _, z⟩⟩ := c <;> cases z
theorem has_isT {K : PySem.W.Frag} {F : Hp} {kvs : List (List Key × V)} {d : Dict κ α} (k : κ) (r : RpT K F kvs (encP d.l)) : (valV kvs (KeyT.key k)).isSome = d.has k := by
  have hq := rpt_val k r
  unfold Dict.has
  cases e : valP d.l k with
  | none => rw [e] at hq; rw [hq]; rfl
  | some x => rw [e] at hq; obtain ⟨w, e1, _⟩ := hq; rw [e1]; rfl
/-- k in d -/
theorem c_inDT (hu : X.A.units + 64 < cLine) : CmpOk X .In (fun (k : κ) (d : Dict κ α) => d.has k) := fun pins s σ H vx vy u1 u2 Q I r1 r2 ⟨F, k, d, sf, q1, q2, q⟩ => by
  obtain ⟨a, kvs, rfl, h1, h2⟩ := q2.dt_of sf
  obtain ⟨b, rfl, hb⟩ := key_vT (rp_keyT q1)
  obtain rfl : u2 = Value.ref a := r2
  refine d_in (o := valV kvs (KeyT.key k)) (by omega) I (.inr ⟨kvs, _, b, h1, rfl, sf _ _ hb, rfl⟩) r1 fun s' I' => ⟨.bl _, H, I', rfl, ?_⟩
  rw [has_isT k h2]; exact q
theorem c_notinDT (hu : X.A.units + 64 < cLine) : CmpOk X .NotIn (fun (k : κ) (d : Dict κ α) => !d.has k) := fun pins s σ H vx vy u1 u2 Q I r1 r2 ⟨F, k, d, sf, q1, q2, q⟩ => by
  obtain ⟨a, kvs, rfl, h1, h2⟩ := q2.dt_of sf
  obtain ⟨b, rfl, hb⟩ := key_vT (rp_keyT q1)
  obtain rfl : u2 = Value.ref a := r2
  refine d_notIn (o := valV kvs (KeyT.key k)) (by omega) I (.inr ⟨kvs, _, b, h1, rfl, sf _ _ hb, rfl⟩) r1 fun s' I' => ⟨.bl _, H, I', rfl, ?_⟩
  rw [has_isT k h2]; exact q
/-- {} -/
theorem XF.dnilT : XF X W ρ (.Dict [] [] pos) (.ok (⟨[]⟩ : Dict κ α)) := PE.imp pe_dnewT fun σ H Q ⟨F0, H0, F, R, p⟩ q nq =>
  p q F _ (.own R.fh nq) nq ⟨sub_free R.fh nq, .inr (.inr ⟨[], _, upd_same, .nil, dict_encT _⟩)⟩
/-- d[k] = v, d this name's own -/
theorem XB.dputT (k i : Nat) (ks : List Nat) {nm : Str} {e ix : Expr} {p1 p2 : Pos} {d : Dict κ α} {rest : List Stmt} {me : Res α} {mk : Res κ} {mr : Dict κ α → Res τ} {fin : τ → Fi} (ρ' : Dict κ α → Rs) (hu : X.A.units + 64 < cLine) (hk : ρ[k]? = some (i, SV.ow (toD d))) (he : XV X W ρ e me) (hi : XV X W ρ ix mk)
    (hr : ∀ ys, XB X W (ρ' ys) rest (mr ys) fin) (hρ : ∀ ys, ρ' ys = (i, SV.ow (toD ys)) :: keepAt ρ ks := by intro _; rfl) (ho : okK ρ [i] ks = true := by rfl) (hN : X.N[i]? = some nm := by rfl) (hv : Vis X.env.scope nm := by first | exact Or.inl rfl | exact Or.inr (Or.inl rfl) | exact Or.inr (Or.inr rfl))
    (hd : (nm == ("__debug__" : Str)) = false := by decide) (hcd : (nm == ("__classdict__" : Str)) = false := by decide) (hs : swapsWith e (some (.Subscript (.Name nm p1) ix p2)) pos.line X.env = pure false := by rfl) :
    XB X W ρ (.Assign [.Subscript (.Name nm p1) ix p2] e pos :: rest) (do
    let x ← me
    let k ← mk
    let ys ← d.putR k x
    mr ys) fin := by
  refine PSs.imp (pss_cons (ps_dput (by omega) (pe_var hN hv hd hcd) hi he hs) (PSs.ex hr)) fun D σ H ⟨F0, H0, F, R, p⟩ => ⟨F0, H0, F, R, ?_⟩
  have q := PostS.bind R p
  cases me with
  | exc c i => exact q
  | stuck => exact q
  | ok x =>
    intro v F1 H1 g1 r1
    have R1 := R.grow g1
    have p1 : PostS X.K X.N.length W F0 H0 F1 (mk >>= fun k => d.putR k x >>= mr) fin D := PostS.sub g1.f p
    have hm := List.mem_of_getElem? hk
    obtain ⟨a, ea, c, z⟩ := R1.ow i _ hm
    refine ⟨.ref a, ea, F0, H0, F1, R1, ?_⟩
    have q1 := PostS.bind R1 p1
    cases mk with
    | exc c i => exact q1
    | stuck => exact q1
    | ok kk =>
      intro y F2 H2 g2 r2
      have R2 := R1.grow g2
      have p2 := PostS.sub g2.f p1
      have c2 := c.grow g2
      rw [dict_encT] at c2
      obtain ⟨fa, ⟨_, _, _, _, w⟩ | ⟨_, _, _, _, w⟩ | ⟨kvs, ds, h1, h2, w⟩⟩ := id c2 <;> cases w
      obtain ⟨b, rfl, hb⟩ := key_vT r2
      have p3 : PostS X.K X.N.length W F0 H0 F2 (d.putR kk x >>= mr) fin D := p2
      cases ep : d.putR kk x with
      | exc c i => unfold Dict.putR at ep; split at ep <;> cases ep
      | stuck => rw [ep] at p3; exact p3.elim
      | ok ys =>
        rw [ep] at p3
        unfold Dict.putR at ep
        split at ep
        · rename_i hl
          cases ep
          have hlen : kvs.length < sizeLine := by rw [rpt_len h2, ← lim_line]; exact hl
          refine ⟨a, upd H2 a (.dT (putK kvs (KeyT.key kk) v)), rfl, .t h1 (g2.fh _ _ hb) hlen, ⟨putP d.l kk x⟩, F0, H0, F2, ?_, p3⟩
          exact R2.mut hm ea ⟨fa, .inr (.inr ⟨_, _, upd_same, rpt_put kk x (r1.sub g2.f) h2, dict_encT _⟩)⟩ (by rw [hρ]; exact put_w ho)
        · cases ep
/-- d.get(k, x) -/
theorem XV.get2T {o e f : Expr} {p1 : Pos} {mo : Res (Dict κ α)} {mk : Res κ} {mx : Res α} (hu : X.A.units + 64 < cLine) (ho : XW X W ρ o mo) (hi : XV X W ρ e mk) (hf : XV X W ρ f mx) (m : M2 X o "get" p1 e f pos := by exact ⟨rfl, rfl, rfl, rfl⟩) : XV X W ρ (.Call (.Attribute o "get" p1) [e, f] [] pos) (do
    let d ← mo
    let k ← mk
    let x ← mx
    Res.ok ((valP d.l k).getD x)) := by
  refine PE.imp (pe_dget2 (by omega) ho hi hf m) fun σ H Q ⟨F0, H0, F, R, p⟩ => ⟨F0, H0, F, R, ?_⟩
  cases mo with
  | exc c i => exact p
  | stuck => exact p
  | ok d =>
    intro v F1 H1 g1 r1
    obtain ⟨a, kvs, rfl, h1, h2⟩ := r1.dt_of g1.fh
    refine ⟨a, rfl, .inr ⟨kvs, h1⟩, F0, H0, F1, R.grow g1, ?_⟩
    have p1 := PostV.grow g1 p
    cases mk with
    | exc c i => exact p1
    | stuck => exact p1
    | ok k =>
      intro u F2 H2 g2 r2
      refine ⟨F0, H0, F2, (R.grow g1).grow g2, ?_⟩
      have p2 := PostV.grow g2 p1
      cases mx with
      | exc c i => exact p2
      | stuck => exact p2
      | ok x =>
        intro z F3 H3 g3 r3
        have p3 : PostV X.K W F3 H3 ((Res.ok ((valP d.l k).getD x)).map toD) Q := PostV.grow g3 p2
        obtain ⟨b, rfl, hb⟩ := key_vT r2
        obtain ⟨a', kvs', e', h1', h2'⟩ := ((r1.grow g2).grow g3).dt_of g3.fh
        cases e'
        have q := rpt_val k h2'
        cases e : valP d.l k with
        | none => rw [e] at p3 q; exact ⟨none, .inr ⟨kvs', _, b, h1', rfl, g3.fh _ _ (g3.f _ _ hb), q.symm⟩, p3 z F3 H3 (.refl g3.fh) r3⟩
        | some y =>
          rw [e] at p3 q
          obtain ⟨w, e1, e2⟩ := q
          exact ⟨some w, .inr ⟨kvs', _, b, h1', rfl, g3.fh _ _ (g3.f _ _ hb), e1.symm⟩, p3 w F3 H3 (.refl g3.fh) e2⟩
end
end Vs
end
section
set_option Elab.async false
set_option linter.all false
set_option maxRecDepth 100000
set_option maxHeartbeats 2000000
/-! Vs27: what is walked, further: constants, tuples, d.items(), d.values(). -/
namespace Vs
open Enc (toD)
open PySem PySem.Spec PyProof.Rows L2
/-- the pairs of a dict with tuple keys, each a new tuple -/
def Itit (d : Addr) (o : Obj) (kvs : List (List Key × V)) : It :=
  ⟨fun i H => H d = some (.frz o (.dT kvs)) ∧ i < kvs.length, fun i H x H' => ∃ (T : Addr) (k : List Key) (v : V) (q : Addr), kvs[i]? = some (k, v) ∧ H q = some (.tup (k.map kV)) ∧ x = .ref T ∧ H T = none ∧ H' = upd H T (.tup [.ref q, v]), fun i H => H d = some (.frz o (.dT kvs)) ∧ kvs.length ≤ i⟩
theorem inv_frzT {X : Cx} {pins : List (Addr × Obj)} {σ : St} {H : Hp} {s : Shared} {d : Addr} {o : Obj} {kvs : List (List Key × V)} (I : Inv X pins σ H s) (h : H d = some (.frz o (.dT kvs))) :
    (d == sysModules) = false ∧ s.heap.get? d = some o ∧ o.ExactDict ∧ ∃ (es : Array DictEntry) (ep : Nat), o.data = .dict es ep ∧ es.size = kvs.length ∧ kvs.length ≤ sizeLine ∧
      ∀ (i : Nat) (k : List Key) (v : V), kvs[i]? = some (k, v) → ∃ (en : DictEntry) (q : Addr), es[i]? = some en ∧ en.key = .ref q ∧ H q = some (.tup (k.map kV)) ∧ RelV v en.val := by
  obtain ⟨hd, z, hs, xs, pr, o', es, ep, ho, hx, hdt, he, _⟩ := I.hok d _ h
  rw [hd] at ho
  cases ho
  refine ⟨hs, hd, hx, es, ep, hdt, ?_, z, fun i k v e => ?_⟩
  · have l1 : es.size = xs.length := size_of_entries he
    have l2 : kvs.length = xs.length := Paired.length pr
    omega
  · obtain ⟨b, hb, e1, e2, e3⟩ := paired_get pr e
    have q := entry_at he i
    rw [hb] at q
    exact ⟨_, b.2.1, q, rfl, e2, e3⟩
section
variable {P : Program} {w : World} {K : PySem.W.Frag} {d : Addr} {o : Obj} {es : Array DictEntry} {ep : Nat}
theorem turn_itemsT {kvs : List (List Key × V)} {elts : List Expr} {kk : Nat} {tpos : Pos} (it : Addr) (hod : o.data = .dict es ep) :
    Turn P w K (.Tuple elts kk tpos) (Itit d o kvs) [it] it (fun i h => ∃ ok ov, IsItemIter h it d i kvs.length ep ok ov) where
  mem := by simp
  obj := fun i h st b hb => by
    obtain rfl : b = it := by simpa using hb
    obtain ⟨ok, ov, e⟩ := st
    exact ⟨_, e, fun v z => nomatch z⟩
  keep := fun i h h' st k => let ⟨ok, ov, e⟩ := st; ⟨ok, ov, k it (by simp) _ e⟩
  item := by
    intro X hP hw hK hc i pins s σ H E I hf st ⟨hd, hi⟩
    subst hP hw hK
    obtain ⟨hs, hgd, hx, es', ep', hdt, hsz, hz, ent⟩ := inv_frzT I hd
    obtain ⟨rfl, rfl⟩ := dict_ep hod hdt
    obtain ⟨⟨k, v⟩, hkv⟩ : ∃ p, kvs[i]? = some p := ⟨kvs[i], List.getElem?_eq_getElem hi⟩
    obtain ⟨en, q, hen, hkey, hq, rv⟩ := ent i k v hkv
    obtain ⟨ok, ov, he⟩ := st
    rw [← hsz] at he
    have hlt : it < s.heap.objs.size := Heap.lt_size he
    have hie : i < es'.size := by omega
    have een : es'[i] = en := by
      rw [Array.getElem?_eq_getElem hie] at hen
      exact Option.some.inj hen
    refine DT.nextI he ⟨o, hgd, hx, hod⟩ hie fun h' ho hT hz' hk => ?_
    rw [een] at ho hT
    refine ⟨_, rfl, wpAny_letOwnedTupleGo_items (s := { s with heap := h' }) ho fun h'' he' sb => ?_⟩
    have hT2 : h''.get? s.heap.objs.size = some { cls := .type "tuple", data := .seq #[en.key, en.val] } := (sb.2 _ (Nat.ne_of_gt hlt)).trans hT
    have new : ObjOk X.prog X.w (upd H s.heap.objs.size (.tup [.ref q, v])) h'' s.heap.objs.size (.tup [.ref q, v]) :=
      ⟨by show 2 ≤ sizeLine; decide, [en.key, en.val], .cons (by rw [hkey]; rfl) (.cons rv .nil), ⟨_, hT2, rfl, _, rfl⟩⟩
    have I1 : Inv X pins σ (upd H s.heap.objs.size (.tup [.ref q, v])) { s with heap := h'' } :=
      I.turnedNew (t' := s.toks) (ch := [it]) (fun b ob hb e => (sb.2 b (by simpa using hb)).trans (hk b ob (by simpa using hb) e)) hf (Nat.le_refl _) new
    refine ⟨.ref s.heap.objs.size, _, I1, rfl, ⟨_, k, v, q, hkv, hq, rfl, I.hok.fresh (Nat.le_refl _), rfl⟩, ⟨en.key, en.val, ?_⟩, fun b hb => ?_⟩
    · rw [← hsz]; exact he'
    · obtain rfl : b = it := by simpa using hb
      rw [upd_ne (Nat.ne_of_lt hlt)]
      exact (hf b (by simp)).1
  done := by
    intro X hP hw hK hc i pins s σ H E I hf st ⟨hd, hi⟩
    subst hP hw hK
    obtain ⟨f0, f1, f2, f3, f4, f5⟩ := hf it (by simp)
    obtain ⟨hs, hgd, hx, es', ep', hdt, hsz, hz, ent⟩ := inv_frzT I hd
    obtain ⟨rfl, rfl⟩ := dict_ep hod hdt
    obtain ⟨ok, ov, he⟩ := st
    rw [← hsz] at he
    exact DT.endI (I.ok.hd hc) he ⟨o, hgd, hx, hod⟩ (by omega) fun h' eb => ⟨rfl, I.turned (t' := s.toks) (fun b ob hb e => eb b ob hb e) f0 f1 f3 f4 f5⟩
  self := fun A i s Q E st h => let ⟨_, _, e⟩ := st; PySem.W.kcp_self e h
end
section
variable {X : Cx} {tg e : Expr} {td : TE} {apos cpos : Pos}
theorem pi_itemsT {elts : List Expr} {kk : Nat} {tpos : Pos} (he : PE X e td) (hbase : attributeBase e "items" X.env (eval e X.env) = eval e X.env := by rfl) (hline : (apos.endLine == cpos.line) = true := by rfl) :
    PI X (.Tuple elts kk tpos) (.Call (.Attribute e "items" apos) [] [] cpos) (fun σ H R => td σ H fun x H1 => ∃ d o kvs, x = .ref d ∧ H1 d = some (.frz o (.dT kvs)) ∧ R (Itit d o kvs) H1) := by
  refine ⟨fun pins s σ H R I h => ?_⟩
  refine wpAny_Call_method (T := "dict") (id := "dict.items") hbase rfl hline F.plainAttrs_dict F.slot_dict_items F.type_dict_items (thn (he.run pins s σ H _ I h) fun u s1 ⟨x, H1, I1, rx, d, o, kvs, ex, hd, q⟩ => ?_)
  subst ex
  obtain rfl : u = Value.ref d := rx
  obtain ⟨hs, hgd, hx, es, ep, hdt, hsz, hz, ent⟩ := inv_frzT I1 hd
  have raw : DT.Raw s1.heap d es ep := ⟨o, hgd, hx, hdt⟩
  refine ⟨raw.typeIs, fun b e => ?_, ?_⟩
  · cases e
    exact ⟨o, hgd, hx.2.1⟩
  have I2 : Inv X pins σ H1 { s1 with heap := s1.heap.push { cls := .type "dict_items", data := .fields #[.ref d] } } := I1.kept (t' := s1.toks) fun b ob q => Heap.get?_push_of_some _ q
  have fin : wpAny (model X.prog X.w) X.A (pyIter (.ref s1.heap.objs.size)) (PIE X pins σ (.Tuple elts kk tpos) R) X.xe { s1 with heap := s1.heap.push { cls := .type "dict_items", data := .fields #[.ref d] } } := by
    refine DT.iterI (s := { s1 with heap := s1.heap.push { cls := .type "dict_items", data := .fields #[.ref d] } }) (v := s1.heap.objs.size) (d := d) (es := es) (ep := ep) ⟨_, Heap.get?_push_size _ rfl, rfl, rfl⟩ (raw.push _) (pi_one (tk := s1.toks) I2 _ (turn_itemsT _ hdt) ⟨.none, .none, ?_⟩ q)
    rw [← hsz]
    exact Heap.get?_push_size _ rfl
  show wpAny _ _ (callWith cpos (.builtin "dict.items") [.ref d] [] []) _ X.xe s1
  exact method_meetsIn F.slot_dict_items F.entry_dict_items rfl (PySem.evalArgs_none ⟨rfl, raw.typeIs, F.args_dict_items_1 _, _, DT.meetsItems (es := es) (ep := ep) hs, raw, fin⟩)
end
section
variable {X : Cx} {W : WX} {ρ : Rs} {pos : Pos} {κ α β γ δ S τ Ω : Type} [Enc κ] [DecidableEq κ] [DKey κ] [Enc α] [Enc β] [Enc γ] [Enc δ]
theorem it_itemsT [KeyT κ] {K : PySem.W.Frag} {F : Hp} {a : Addr} {o : Obj} {kvs : List (List Key × V)} {l : List (κ × α)} (e : F a = some (.frz o (.dT kvs))) (r : RpT K F kvs (encP l)) : ItOk K (Itit a o kvs) F (l.map toD) := by
  have hl : kvs.length = l.length := rpt_len r
  refine ⟨fun i F1 H1 s1 s2 hi => ?_, fun i F1 H1 d x H2 s1 s2 hd hy => ?_, fun i F1 H1 s1 s2 hi => ?_⟩
  · exact ⟨s2 _ _ (s1 _ _ e), by simpa [hl] using hi⟩
  · obtain ⟨T, k, v, q, hk, hq, rfl, hT, rfl⟩ := hy
    have get : ∀ {kvs : List (List Key × V)} {l : List (κ × α)} {i : Nat} {k : List Key} {v : V}, RpT K F kvs (encP l) → kvs[i]? = some (k, v) → ∃ p, l[i]? = some p ∧ k = KeyT.key p.1 ∧ Rp K F v (toD p.2) := by
      intro kvs l
      induction l generalizing kvs with
      | nil => intro i k v r hk; rw [rpt_nil r] at hk; simp at hk
      | cons p l ih =>
        intro i k v r hk
        obtain ⟨u, rest, rfl, h1, h2⟩ := rpt_cons r
        cases i with
        | zero => simp at hk; obtain ⟨rfl, rfl⟩ := hk; exact ⟨p, rfl, rfl, h1⟩
        | succ i => simp at hk; obtain ⟨p', e1, e2, e3⟩ := ih h2 hk; exact ⟨p', by simpa using e1, e2, e3⟩
    obtain ⟨p, e1, rfl, e3⟩ := get r hk
    rw [List.getElem?_map, e1] at hd
    cases hd
    have s3 : ∀ o, F1 q = some o → o = .tup ((KeyT.key p.1).map kV) := fun o e => by
      have := s2 _ _ e
      rw [hq] at this; cases this; rfl
    have g1 : Grow F1 H1 (upd F1 q (.tup ((KeyT.key p.1).map kV))) H1 := ⟨fun b o e => by
      by_cases h : b = q
      · subst h; rw [upd_same, s3 o e]
      · rw [upd_ne h]; exact e, fun _ _ e => e, fun b o e => by
      by_cases h : b = q
      · subst h; rw [upd_same] at e; rw [← e]; exact hq
      · rw [upd_ne h] at e; exact s2 b o e, fun b hb => upd_ne fun h => by
      subst h
      exact hb.2 _ hq⟩
    have g2 := g1.trans (.new (o := .tup [.ref q, v]) g1.fh hT)
    refine ⟨_, g2, ?_⟩
    have sT : Sub (upd F1 q (.tup ((KeyT.key p.1).map kV))) (upd (upd F1 q (.tup ((KeyT.key p.1).map kV))) T (.tup [.ref q, v])) := sub_upd (sub_free g1.fh hT)
    refine .tup upd_same (.cons ?_ (.cons ((e3.sub s1).sub g2.f) .nil))
    rw [KeyT.enc]
    exact .tup (sT _ _ upd_same) (keys_rp _)
  · exact ⟨s2 _ _ (s1 _ _ e), by simpa [hl] using hi⟩
/-- for k, v in d.items() -/
theorem XI.itemsT [KeyT κ] {e : Expr} {apos cpos tpos : Pos} {elts : List Expr} {kk : Nat} {m : Res (Dict κ α)} (he : XV X W ρ e m) (hbase : attributeBase e "items" X.env (eval e X.env) = eval e X.env := by rfl) (hline : (apos.endLine == cpos.line) = true := by rfl) :
    XI X W ρ (.Tuple elts kk tpos) (.Call (.Attribute e "items" apos) [] [] cpos) (do
    let d ← m
    Res.ok d.l) := by
  refine ⟨fun pins s σ H R I ⟨F0, H0, F, Rh, p⟩ => ?_⟩
  cases m with
  | exc c i => exact (pi_itemsT (elts := elts) (kk := kk) (tpos := tpos) he hbase hline).run pins s σ H R I ⟨F0, H0, F, Rh, p⟩
  | stuck => exact p.elim
  | ok d =>
    refine (pi_itemsT (elts := elts) (kk := kk) (tpos := tpos) (td := fun σ H Q => rdV X.K X.N.length W ρ (.ok (toD d)) σ H fun v H1 => (∀ a o kvs, H1 a = some (.frz o (.dT kvs)) → kvs.length ≤ sizeLine) → Q v H1) ?_ hbase hline).run pins s σ H R I ⟨F0, H0, F, Rh, fun v F1 H1 g r hz => ?_⟩
    · exact ⟨fun pins s σ H Q I q => thn (he.run pins s σ H _ I q) fun u s1 ⟨v, H1, I1, r, q1⟩ => ⟨v, H1, I1, r, q1 fun a o kvs e => (inv_frzT I1 e).2.2.2.choose_spec.choose_spec.2.2.1⟩⟩
    · obtain ⟨a, o, kvs, rfl, h1, h2⟩ := r.dt_of
      refine ⟨a, o, kvs, rfl, g.fh _ _ h1, p _ F1 H1 g (it_itemsT h1 h2) ?_⟩
      have := hz a o kvs (g.fh _ _ h1)
      rw [List.length_map, ← rpt_len h2]
      exact this
theorem it_items [KeyK κ] {K : PySem.W.Frag} {F : Hp} {a : Addr} {o : Obj} {kvs : List (Key × V)} {l : List (κ × α)} (e : F a = some (.frz o (.dK kvs))) (r : RpK K F kvs (encP l)) : ItOk K (Iti a o kvs) F (l.map toD) := by
  have hl : kvs.length = l.length := rpk_len r
  refine ⟨fun i F1 H1 s1 s2 hi => ?_, fun i F1 H1 d x H2 s1 s2 hd hy => ?_, fun i F1 H1 s1 s2 hi => ?_⟩
  · exact ⟨s2 _ _ (s1 _ _ e), by simpa [hl] using hi⟩
  · obtain ⟨T, k, v, hk, rfl, hT, rfl⟩ := hy
    have get : ∀ {kvs : List (Key × V)} {l : List (κ × α)} {i : Nat} {k : Key} {v : V}, RpK K F kvs (encP l) → kvs[i]? = some (k, v) → ∃ p, l[i]? = some p ∧ k = KeyK.key p.1 ∧ Rp K F v (toD p.2) := by
      intro kvs l
      induction l generalizing kvs with
      | nil => intro i k v r hk; rw [rpk_nil r] at hk; simp at hk
      | cons p l ih =>
        intro i k v r hk
        obtain ⟨u, rest, rfl, h1, h2⟩ := rpk_cons r
        cases i with
        | zero => simp at hk; obtain ⟨rfl, rfl⟩ := hk; exact ⟨p, rfl, rfl, h1⟩
        | succ i => simp at hk; obtain ⟨p', e1, e2, e3⟩ := ih h2 hk; exact ⟨p', by simpa using e1, e2, e3⟩
    obtain ⟨p, e1, rfl, e3⟩ := get r hk
    rw [List.getElem?_map, e1] at hd
    cases hd
    have g2 : Grow F1 H1 (upd F1 T (.tup [kV (KeyK.key p.1), v])) (upd H1 T (.tup [kV (KeyK.key p.1), v])) := .new s2 hT
    refine ⟨_, g2, .tup upd_same (.cons ?_ (.cons ((e3.sub s1).sub g2.f) .nil))⟩
    rw [KeyK.enc]
    cases KeyK.key p.1 with
    | inl i => exact .int i
    | inr x => exact .str x
  · exact ⟨s2 _ _ (s1 _ _ e), by simpa [hl] using hi⟩
theorem XI.items [KeyK κ] {e : Expr} {apos cpos tpos : Pos} {elts : List Expr} {kk : Nat} {m : Res (Dict κ α)} (he : XV X W ρ e m) (hbase : attributeBase e "items" X.env (eval e X.env) = eval e X.env := by rfl) (hline : (apos.endLine == cpos.line) = true := by rfl) :
    XI X W ρ (.Tuple elts kk tpos) (.Call (.Attribute e "items" apos) [] [] cpos) (do
    let d ← m
    Res.ok d.l) := by
  refine ⟨fun pins s σ H R I ⟨F0, H0, F, Rh, p⟩ => ?_⟩
  cases m with
  | exc c i => exact (pi_items (elts := elts) (kk := kk) (tpos := tpos) he hbase hline).run pins s σ H R I ⟨F0, H0, F, Rh, p⟩
  | stuck => exact p.elim
  | ok d =>
    refine (pi_items (elts := elts) (kk := kk) (tpos := tpos) (td := fun σ H Q => rdV X.K X.N.length W ρ (.ok (toD d)) σ H fun v H1 => (∀ a o kvs, H1 a = some (.frz o (.dK kvs)) → kvs.length ≤ sizeLine) → Q v H1) ?_ hbase hline).run pins s σ H R I ⟨F0, H0, F, Rh, fun v F1 H1 g r hz => ?_⟩
    · exact ⟨fun pins s σ H Q I q => thn (he.run pins s σ H _ I q) fun u s1 ⟨v, H1, I1, r, q1⟩ => ⟨v, H1, I1, r, q1 fun a o kvs e => (dk_rd I1.hok (.inr ⟨o, e⟩)).1⟩⟩
    · obtain ⟨a, o, kvs, rfl, h1, h2⟩ := r.dk_of
      refine ⟨a, o, kvs, rfl, g.fh _ _ h1, p _ F1 H1 g (it_items h1 h2) ?_⟩
      have := hz a o kvs (g.fh _ _ h1)
      rw [List.length_map, ← rpk_len h2]
      exact this
/-- d.get(k, x), plain keys -/
theorem XV.get2 [KeyK κ] {o e f : Expr} {p1 : Pos} {mo : Res (Dict κ α)} {mk : Res κ} {mx : Res α} (hu : X.A.units + 64 < cLine) (ho : XW X W ρ o mo) (hi : XV X W ρ e mk) (hf : XV X W ρ f mx) (m : M2 X o "get" p1 e f pos := by exact ⟨rfl, rfl, rfl, rfl⟩) : XV X W ρ (.Call (.Attribute o "get" p1) [e, f] [] pos) (do
    let d ← mo
    let k ← mk
    let x ← mx
    Res.ok ((valP d.l k).getD x)) := by
  refine PE.imp (pe_dget2 (by omega) ho hi hf m) fun σ H Q ⟨F0, H0, F, R, p⟩ => ⟨F0, H0, F, R, ?_⟩
  cases mo with
  | exc c i => exact p
  | stuck => exact p
  | ok d =>
    intro v F1 H1 g1 r1
    obtain ⟨a, kvs, rfl, h1, h2⟩ := r1.dk_of g1.fh
    refine ⟨a, rfl, .inl ⟨kvs, h1⟩, F0, H0, F1, R.grow g1, ?_⟩
    have p1 := PostV.grow g1 p
    cases mk with
    | exc c i => exact p1
    | stuck => exact p1
    | ok k =>
      intro u F2 H2 g2 r2
      refine ⟨F0, H0, F2, (R.grow g1).grow g2, ?_⟩
      have p2 := PostV.grow g2 p1
      cases mx with
      | exc c i => exact p2
      | stuck => exact p2
      | ok x =>
        intro z F3 H3 g3 r3
        have p3 : PostV X.K W F3 H3 ((Res.ok ((valP d.l k).getD x)).map toD) Q := PostV.grow g3 p2
        obtain rfl := key_v r2
        obtain ⟨a', kvs', e', h1', h2'⟩ := ((r1.grow g2).grow g3).dk_of g3.fh
        cases e'
        have q := rpk_val k h2'
        cases e : valP d.l k with
        | none => rw [e] at p3 q; exact ⟨none, .inl ⟨kvs', _, h1', rfl, q.symm⟩, p3 z F3 H3 (.refl g3.fh) r3⟩
        | some y =>
          rw [e] at p3 q
          obtain ⟨w, e1, e2⟩ := q
          exact ⟨some w, .inl ⟨kvs', _, h1', rfl, e1.symm⟩, p3 w F3 H3 (.refl g3.fh) e2⟩
/-- for x in t, t a tuple of one kind, or a constant -/
theorem it_tupI {K : PySem.W.Frag} {F : Hp} {a : Addr} {xs : List V} {ds : List PyData} (e : ∀ F1 H1 : Hp, Sub F F1 → Sub F1 H1 → SqT K H1 a xs) (r : RpAll K F xs ds) : ItOk K (Itt K a) F ds := by
  refine ⟨fun i F1 H1 s1 s2 hi => ?_, fun i F1 H1 d x H2 s1 s2 hd hy => ?_, fun i F1 H1 s1 s2 hi => ?_⟩
  · have hi' : i < xs.length := by rw [r.length]; exact hi
    exact ⟨xs, xs[i], e F1 H1 s1 s2, by simp [hi']⟩
  · obtain ⟨rfl, hx⟩ := hy
    have hx' := hx xs (e F1 _ s1 s2)
    obtain ⟨v, h1, h2⟩ := r.get hd
    rw [hx'] at h1; cases h1
    exact ⟨F1, .refl s2, h2.sub s1⟩
  · exact ⟨xs, e F1 H1 s1 s2, by rw [r.length]; exact hi⟩
theorem XI.tupG {tg e : Expr} {m : Res β} {f : β → List α} (hl : ∀ {K : PySem.W.Frag} {F : Hp} {v : V} {x : β}, Rp K F v (toD x) → ∃ a xs, v = .ref a ∧ (∀ F1 H1 : Hp, Sub F F1 → Sub F1 H1 → SqT K H1 a xs) ∧ RpAll K F xs ((f x).map toD)) (he : XV X W ρ e m) : XI X W ρ tg e (do
    let t ← m
    Res.ok (f t)) := by
  refine ⟨fun pins s σ H R I ⟨F0, H0, F, Rh, p⟩ => ?_⟩
  cases m with
  | exc c i => exact (pi_tup (tg := tg) he).run pins s σ H R I ⟨F0, H0, F, Rh, p⟩
  | stuck => exact p.elim
  | ok t =>
    refine (pi_tup (tg := tg) (tl := fun σ H Q => rdV X.K X.N.length W ρ (.ok (toD t)) σ H fun v H1 => (∀ a xs, SqT X.K H1 a xs → xs.length ≤ sizeLine) → Q v H1) ?_).run pins s σ H R I ⟨F0, H0, F, Rh, fun v F1 H1 g r hz => ?_⟩
    · exact ⟨fun pins s σ H Q I q => thn (he.run pins s σ H _ I q) fun u s1 ⟨v, H1, I1, r, q1⟩ => ⟨v, H1, I1, r, q1 fun a xs e => by
        obtain ⟨its, rv, pl, hz⟩ := I1.tuple e
        first | exact hz | (rw [rv.length]; exact hz)⟩⟩
    · obtain ⟨a, xs, rfl, h1, h2⟩ := hl r
      have q := h1 F1 H1 (fun _ _ e => e) g.fh
      exact ⟨a, rfl, ⟨xs, q⟩, p _ F1 H1 g (it_tupI h1 h2) (by rw [← h2.length]; exact hz a xs q)⟩
theorem XI.tup {tg e : Expr} {m : Res (Tup α)} (he : XV X W ρ e m) : XI X W ρ tg e (do
    let t ← m
    Res.ok t.l) := XI.tupG (f := fun t : Tup α => t.l) (fun r => by
  obtain ⟨a, xs, e, h1, h2⟩ := Rp.tup_at r
  exact ⟨a, xs, e, fun F1 H1 s1 s2 => .inl (.inl (s2 _ _ (s1 _ _ h1))), h2⟩) he
theorem XI.ctup {tg e : Expr} {m : Res (CTup α)} (he : XV X W ρ e m) : XI X W ρ tg e (do
    let t ← m
    Res.ok t.l) := XI.tupG (f := fun t : CTup α => t.l) (fun r => by
  cases r with
  | ctup h1 h2 => exact ⟨_, _, rfl, fun F1 H1 s1 s2 => h1 H1, h2⟩) he
end
end Vs
end
section
set_option Elab.async false
set_option linter.all false
set_option maxRecDepth 100000
set_option maxHeartbeats 2000000
/-! Vs28: unpacking of lists; constants named by the head. -/
namespace Vs
open Enc (toD)
open PySem PySem.Spec PyProof.Rows L2
theorem Res.ok_bind2 {α β : Type} (a : α) (f : α → Res β) : (Res.ok a >>= f) = f a := (Res.ok_bind a f).trans (Eq.refl _)
/-- x in xs -/
def memB {α : Type} [DecidableEq α] (x : α) (xs : List α) : Bool := decide (x ∈ xs)
theorem memB_eq {α : Type} [DecidableEq α] {x : α} {xs : List α} : memB x xs = decide (x ∈ xs) := rfl
theorem memB_iff {α : Type} [DecidableEq α] {x : α} {xs : List α} : memB x xs = true ↔ x ∈ xs := decide_eq_true_iff
section
variable {X : Cx} {α : Type} [Enc α]
theorem c_inB {k : Nat} [DecidableEq α] [PyEq α] (hr : Room (k + 1) X.A) (h : PyEq.dp α ≤ 58 := by decide) : CmpOk X .In (fun (a : α) (xs : List α) => memB a xs) := c_in hr h
theorem c_notinB {k : Nat} [DecidableEq α] [PyEq α] (hr : Room (k + 1) X.A) (h : PyEq.dp α ≤ 58 := by decide) : CmpOk X .NotIn (fun (a : α) (xs : List α) => !memB a xs) := c_notin hr h
end
/-- lists of just so many items -/
structure U2 (α β : Type) where
  (a : α) (b : β)
structure U3 (α β γ : Type) where
  (a : α) (b : β) (c : γ)
structure U4 (α β γ δ : Type) where
  (a : α) (b : β) (c : γ) (d : δ)
instance {α β : Type} [Enc α] [Enc β] : Enc (U2 α β) := ⟨fun u => .list [toD u.a, toD u.b]⟩
instance {α β γ : Type} [Enc α] [Enc β] [Enc γ] : Enc (U3 α β γ) := ⟨fun u => .list [toD u.a, toD u.b, toD u.c]⟩
instance {α β γ δ : Type} [Enc α] [Enc β] [Enc γ] [Enc δ] : Enc (U4 α β γ δ) := ⟨fun u => .list [toD u.a, toD u.b, toD u.c, toD u.d]⟩
def unL2 {α : Type} : List α → Res (U2 α α)
  | [a, b] => .ok ⟨a, b⟩
  | _ => .stuck
def unL3 {α : Type} : List α → Res (U3 α α α)
  | [a, b, c] => .ok ⟨a, b, c⟩
  | _ => .stuck
def unL4 {α : Type} : List α → Res (U4 α α α α)
  | [a, b, c, d] => .ok ⟨a, b, c, d⟩
  | _ => .stuck
section
variable {X : Cx} {W : WX} {ρ : Rs} {pos : Pos} {α β γ δ S τ Ω : Type} [Enc α] [Enc β] [Enc γ] [Enc δ]
theorem XV.recast {e : Expr} {m : Res α} {f : α → Res β} (h : XV X W ρ e m) (hf : ∀ x, f x = .stuck ∨ ∃ y, f x = .ok y ∧ toD y = toD x) : XV X W ρ e (m >>= f) := PE.imp h fun σ H Q ⟨F0, H0, F, R, p⟩ => ⟨F0, H0, F, R, by
  cases m with
  | exc c i => exact p
  | stuck => exact p
  | ok x =>
    have p : PostV X.K W F H ((f x).map toD) Q := p
    rcases hf x with e | ⟨y, e, q⟩
    · rw [e] at p; exact p.elim
    · rw [e] at p
      have p : PostV X.K W F H (.ok (toD y)) Q := p
      rw [q] at p; exact p⟩
theorem XV.unL2 {e : Expr} {m : Res (List α)} (h : XV X W ρ e m) : XV X W ρ e (m >>= Vs.unL2) := h.recast fun x => by
  match x with
  | [a, b] => exact .inr ⟨_, rfl, rfl⟩
  | [] => exact .inl rfl
  | [_] => exact .inl rfl
  | _ :: _ :: _ :: _ => exact .inl rfl
theorem XV.unL3 {e : Expr} {m : Res (List α)} (h : XV X W ρ e m) : XV X W ρ e (m >>= Vs.unL3) := h.recast fun x => by
  match x with
  | [a, b, c] => exact .inr ⟨_, rfl, rfl⟩
  | [] => exact .inl rfl
  | [_] => exact .inl rfl
  | [_, _] => exact .inl rfl
  | _ :: _ :: _ :: _ :: _ => exact .inl rfl
theorem XV.unL4 {e : Expr} {m : Res (List α)} (h : XV X W ρ e m) : XV X W ρ e (m >>= Vs.unL4) := h.recast fun x => by
  match x with
  | [a, b, c, d] => exact .inr ⟨_, rfl, rfl⟩
  | [] => exact .inl rfl
  | [_] => exact .inl rfl
  | [_, _] => exact .inl rfl
  | [_, _, _] => exact .inl rfl
  | _ :: _ :: _ :: _ :: _ :: _ => exact .inl rfl
theorem XG.lst {is : List Nat} {k : Nat} {es : List Expr} {ds : List PyData} {ρ' : Rs} (hc : X.calm = true) (h : XGs X is ρ es ds ρ') (hn : (assignEach es X.env).length = ds.length := by rfl) (hst : (assignEach es X.env).findIdx? (·.1) = none := by rfl) :
    XG X is ρ (.Tuple es k pos) (.list ds) ρ' := by
  refine PG.imp (pg_lst hc h hn hst) fun v σ H Q ⟨F0, H0, F, R, r, q⟩ => ?_
  obtain ⟨a, xs, rfl, h1, h2⟩ := r.lst_of
  exact ⟨a, xs, rfl, .inl (.inl (R.fh _ _ h1)), h2.length, F0, H0, F, R, h2, q⟩
/-- a constant of the module -/
def CtI (K : PySem.W.Frag) (mg : Str → Option Value) (x : Str) (l : List Int) : Prop := ∃ a, mg x = some (.ref a) ∧ TpC K a (l.map V.int)
theorem XV.globCI {x : Str} {l : List Int} (h : CtI X.K X.mg x l) (hg : Gl X x := by rfl) (hd : (x == ("__debug__" : Str)) = false := by decide) : XV X W ρ (.Name x pos) (.ok (⟨l⟩ : CTup Int)) := by
  obtain ⟨a, h1, h2⟩ := h
  exact XV.globC h1 h2 (fun F => rp_ints l) hg hd
end
theorem ctI_of {K : PySem.W.Frag} {h : Heap} {mg : Str → Option Value} {x : Str} {l : List Int} (X : K.In h) (G : h.Ns mainGlobals mg) (c1 : (He.Fa.glo x).ok K = true) (c2 : He.tupB K x (l.map He.Dv.int) = true) : CtI K mg x l := by
  refine ⟨_, He.glo_ok X G c1, fun H => ?_⟩
  have := He.tupB_ok c2 H
  rw [List.map_map] at this
  exact this
end Vs
end
section
set_option Elab.async false
set_option linter.all false
set_option maxRecDepth 100000
set_option maxHeartbeats 1000000
/-! Vs29: plain lemmas, further: repr, dicts, enumerate, items by place, cuts. -/
namespace Vs
open Enc (toD)
open PySem PySem.Spec PyProof.Rows
/-! ### what can be shown -/
structure Sh (d : PyData) (n : Nat) : Prop where
  a : d.showable = true
  b : d.leavesShort 40 = true
  c : d.bulk ≤ n
theorem Sh.int {i : Int} (h0 : 0 ≤ i) (h : i < 10 ^ 38) : Sh (toD i) 0 := ⟨(shows_int h0 h).1, (shows_int h0 h).2, Nat.le_refl _⟩
theorem Sh.bool (b : Bool) : Sh (toD b) 0 := ⟨by cases b <;> rfl, by cases b <;> rfl, Nat.le_refl _⟩
theorem Sh.mono {d : PyData} {n m : Nat} (h : Sh d n) (k : n ≤ m) : Sh d m := ⟨h.a, h.b, Nat.le_trans h.c k⟩
theorem Sh.all {n : Nat} : ∀ {ds : List PyData}, (∀ d ∈ ds, Sh d n) → PyData.showableAll ds = true ∧ PyData.leavesShortAll 40 ds = true ∧ PyData.bulkAll ds ≤ (n + 1) * ds.length
  | [], _ => ⟨rfl, rfl, Nat.zero_le _⟩
  | d :: ds, h => by
    obtain ⟨h1, h2, h3⟩ := Sh.all (ds := ds) fun y hy => h y (List.mem_cons_of_mem _ hy)
    have q := h d List.mem_cons_self
    refine ⟨?_, ?_, ?_⟩
    · show (d.showable && _) = true
      rw [q.a, h1]; rfl
    · show (d.leavesShort 40 && _) = true
      rw [q.b, h2]; rfl
    · show d.bulk + 1 + PyData.bulkAll ds ≤ _
      have := q.c
      rw [List.length_cons, Nat.mul_add]; omega
theorem Sh.list {α : Type} [Enc α] {xs : List α} {n : Nat} (h : ∀ x ∈ xs, Sh (toD x) n) : Sh (toD xs) ((n + 1) * xs.length) := by
  obtain ⟨h1, h2, h3⟩ := Sh.all (ds := xs.map toD) (n := n) fun d hd => by
    obtain ⟨x, hx, rfl⟩ := List.mem_map.mp hd
    exact h x hx
  rw [List.length_map] at h3
  exact ⟨h1, h2, h3⟩
theorem Sh.pair {α β : Type} [Enc α] [Enc β] {p : α × β} {n : Nat} (h1 : Sh (toD p.1) n) (h2 : Sh (toD p.2) n) : Sh (toD p) (2 * n + 2) := by
  obtain ⟨a, b, c⟩ := Sh.all (ds := [toD p.1, toD p.2]) (n := n) fun d hd => by
    rcases List.mem_cons.mp hd with rfl | hd
    · exact h1
    · cases List.mem_singleton.mp hd; exact h2
  exact ⟨a, b, by simp only [List.length_cons, List.length_nil] at c; show PyData.bulkAll _ ≤ _; omega⟩
theorem Sh.some {α : Type} [Enc α] {x : α} {n : Nat} (h : Sh (toD x) n) : Sh (toD (some x)) n := h
theorem Sh.none {α : Type} [Enc α] : Sh (toD (none : Option α)) 0 := ⟨rfl, rfl, Nat.le_refl _⟩
theorem reprR_sh {α : Type} [Enc α] {x : α} {n : Nat} (h : Sh (toD x) n) (k : n ≤ 300000) : reprR x = .ok ⟨(toD x).shown⟩ := reprR_of h.a h.b (Nat.le_trans h.c k)
theorem Sh.ints {xs : List Int} (h : ∀ x ∈ xs, 0 ≤ x ∧ x < 10 ^ 38) : Sh (toD xs) xs.length := by
  have := Sh.list (xs := xs) (n := 0) fun x hx => Sh.int (h x hx).1 (h x hx).2
  simpa using this
section
variable {α β γ κ σ : Type}
/-! ### items -/
theorem getL_nat {xs : List α} {k : Nat} {x : α} (h : xs[k]? = some x) : getL xs (k : Int) = .ok x := by
  have hk := (List.getElem?_eq_some_iff.mp h).1
  unfold getL idx
  rw [if_pos (by omega), if_pos (by omega)]
  simp only [Int.toNat_natCast, Option.bind_some, h]
theorem getL_lt {xs : List α} {k : Nat} (h : k < xs.length) : getL xs (k : Int) = .ok xs[k] := getL_nat (List.getElem?_eq_getElem h)
theorem getL_int {xs : List α} {i : Int} {x : α} (h0 : 0 ≤ i) (h : xs[i.toNat]? = some x) : getL xs i = .ok x := by
  have : i = (i.toNat : Int) := by omega
  rw [this]; exact getL_nat h
theorem getL_neg1 {xs : List α} (h : xs ≠ []) : getL xs (-1) = .ok (xs.getLast h) := by
  have hl := List.length_pos_iff.mpr h
  unfold getL idx
  rw [if_neg (by omega), if_pos (by omega)]
  have e : (-1 + (xs.length : Int)).toNat = xs.length - 1 := by omega
  simp only [Option.bind_some, e]
  rw [List.getLast_eq_getElem h, List.getElem?_eq_getElem (by omega)]
theorem setL_nat {xs : List α} {k : Nat} {v : α} (h : k < xs.length) : setL xs (k : Int) v = .ok (xs.set k v) := by
  unfold setL idx
  rw [if_pos (by omega), if_pos (by omega)]
  simp
theorem enumL_len (xs : List α) : (enumL xs).length = xs.length := by simp [enumL]
theorem enumL_get {xs : List α} {k : Nat} {p : Int × α} (h : (enumL xs)[k]? = some p) : p.1 = (k : Int) ∧ xs[k]? = some p.2 := by
  unfold enumL at h
  rw [List.getElem?_map] at h
  cases e : xs.zipIdx[k]? with
  | none => rw [e] at h; cases h
  | some q =>
    rw [e] at h
    rw [List.getElem?_zipIdx] at e
    cases e2 : xs[k]? with
    | none => rw [e2] at e; cases e
    | some x =>
      rw [e2] at e
      simp at e h
      subst e
      cases h
      exact ⟨by simp, rfl⟩
theorem enumL_eq (xs : List α) : enumL xs = xs.mapIdx fun k x => ((k : Int), x) := by
  apply List.ext_getElem?
  intro k
  unfold enumL
  rw [List.getElem?_map, List.getElem?_zipIdx, List.getElem?_mapIdx]
  cases xs[k]? <;> simp
theorem mem_enumL {xs : List α} {p : Int × α} (h : p ∈ enumL xs) : ∃ k : Nat, p.1 = (k : Int) ∧ xs[k]? = some p.2 := by
  obtain ⟨k, e⟩ := List.mem_iff_getElem?.mp h
  exact ⟨k, enumL_get e⟩
theorem rangeL_nat (n : Nat) : rangeL 0 (n : Int) = (List.range n).map fun k : Nat => (k : Int) := by
  unfold rangeL
  rw [show ((n : Int) - 0).toNat = n by omega]
  exact List.map_congr_left fun k _ => by omega
theorem catL_is {xs ys : List α} (h : xs.length + ys.length ≤ lim) : catL xs ys = .ok (xs ++ ys) := mkL_is (by rw [List.length_append]; exact h)
theorem pushL_is {xs : List α} {y : α} (h : xs.length < lim) : pushL xs y = .ok (xs ++ [y]) := mkL_is (by rw [List.length_append]; exact h)
theorem bnd_nat {n d k : Nat} (h : k ≤ n) : bnd n d (some (k : Int)) = k := by
  show (if (k : Int) < 0 then (max ((k : Int) + n) 0).toNat else (min (k : Int) n).toNat) = k
  rw [if_neg (by omega)]
  omega
theorem cutL_to {xs : List α} {k : Nat} (h : k ≤ xs.length) : cutL xs none (some (k : Int)) = xs.take k := by
  show (xs.drop 0).take (bnd xs.length xs.length (some (k : Int)) - 0) = _
  rw [bnd_nat h]; rfl
theorem cutL_from {xs : List α} {k : Nat} (h : k ≤ xs.length) : cutL xs (some (k : Int)) none = xs.drop k := by
  show (xs.drop (bnd xs.length 0 (some (k : Int)))).take (xs.length - bnd xs.length 0 (some (k : Int))) = _
  rw [bnd_nat h, List.take_of_length_le (by rw [List.length_drop]; omega)]
/-- [f x for x in xs] -/
theorem lcR_map {f : α → Res β} {g : α → β} {xs : List α} (h : ∀ x ∈ xs, f x = .ok (g x)) : lcR (fun _ => .ok true) f xs = .ok (xs.map g) := by
  rw [lcR_pure (b := fun _ => true) (g := g) (fun _ _ => rfl) (fun x hx _ => h x hx), List.filter_eq_self.mpr fun _ _ => rfl]
/-- [x for x in xs if b x] -/
theorem lcR_filter {t : α → Res Bool} {b : α → Bool} {xs : List α} (h : ∀ x ∈ xs, t x = .ok (b x)) : lcR t (fun x => .ok x) xs = .ok (xs.filter b) := by
  rw [lcR_pure (b := b) (g := fun x => x) h (fun _ _ _ => rfl)]
  simp
theorem lcR_id {xs : List α} : lcR (fun _ => .ok true) (fun x => .ok x) xs = .ok xs := by
  rw [lcR_map (g := fun x => x) fun _ _ => rfl]; simp
/-- a loop that may stop with o -/
theorem foldC_first {Ω : Type} {f : Unit → α → Res (Ctl Ω Unit)} {b : α → Bool} {o : Ω} : ∀ {xs : List α}, (∀ x ∈ xs, f () x = .ok (if b x then .ex o else .nx ())) → foldC f xs () = .ok (if xs.any b then .ex o else .nx ())
  | [], _ => rfl
  | x :: xs, h => by
    unfold foldC
    rw [h x List.mem_cons_self, List.any_cons]
    cases b x with
    | true => rfl
    | false => exact foldC_first fun y hy => h y (List.mem_cons_of_mem _ hy)
theorem foldR_append {f : σ → α → Res σ} : ∀ {xs ys : List α} {s : σ}, foldR f (xs ++ ys) s = (foldR f xs s >>= fun s' => foldR f ys s')
  | [], _, _ => rfl
  | x :: xs, ys, s => by
    show (f s x >>= fun s' => foldR f (xs ++ ys) s') = ((f s x >>= fun s' => foldR f xs s') >>= _)
    cases f s x with
    | ok s' => exact foldR_append
    | exc c i => rfl
    | stuck => rfl
/-- a walk that fails first at k -/
theorem foldR_fail {f : Unit → α → Res Unit} {c : Str} {i : Int} : ∀ {xs : List α} {k : Nat} {x : α}, xs[k]? = some x → (∀ j, j < k → ∀ y, xs[j]? = some y → f () y = .ok ()) → f () x = .exc c i → foldR f xs () = .exc c i
  | [], k, x, h, _, _ => by simp at h
  | y :: xs, 0, x, h, _, h2 => by
    simp at h
    subst h
    show (f () y >>= fun s' => foldR f xs s') = _
    rw [h2]; rfl
  | y :: xs, k + 1, x, h, h1, h2 => by
    show (f () y >>= fun s' => foldR f xs s') = _
    rw [h1 0 (Nat.succ_pos _) y rfl]
    exact foldR_fail (k := k) (by simpa using h) (fun j hj z hz => h1 (j + 1) (by omega) z (by simpa using hz)) h2
theorem foldR_pass {f : Unit → α → Res Unit} {xs : List α} (h : ∀ x ∈ xs, f () x = .ok ()) : foldR f xs () = .ok () := by
  obtain ⟨s, e, _⟩ := foldR_inv (f := f) (I := fun _ => True) (xs := xs) (s := ()) (fun x hx s _ => ⟨(), h x hx, trivial⟩) trivial
  exact e
theorem enumL_at {xs : List α} {k : Nat} {x : α} (h : xs[k]? = some x) : (enumL xs)[k]? = some ((k : Int), x) := by
  rw [enumL_eq, List.getElem?_mapIdx, h]; rfl
/-! ### repeats -/
section
variable [DecidableEq α]
theorem dedup_le : ∀ xs : List α, (dedup xs).length ≤ xs.length
  | [] => Nat.le_refl _
  | x :: xs => by
    unfold dedup
    have := dedup_le xs
    split
    · rw [List.length_cons]; omega
    · rw [List.length_cons, List.length_cons]; omega
theorem dedup_nodup : ∀ {xs : List α}, xs.Nodup → dedup xs = xs
  | [], _ => rfl
  | x :: xs, h => by
    rw [List.nodup_cons] at h
    unfold dedup
    rw [if_neg h.1, dedup_nodup h.2]
theorem dedup_len_iff : ∀ {xs : List α}, (dedup xs).length = xs.length ↔ xs.Nodup
  | [] => by simp [dedup]
  | x :: xs => by
    have ih := dedup_len_iff (xs := xs)
    have le := dedup_le xs
    rw [List.nodup_cons]
    unfold dedup
    by_cases h : x ∈ xs
    · rw [if_pos h, List.length_cons]
      exact ⟨fun e => by omega, fun e => absurd h e.1⟩
    · rw [if_neg h, List.length_cons, List.length_cons]
      exact ⟨fun e => ⟨h, ih.mp (by omega)⟩, fun e => by rw [ih.mpr e.2]⟩
theorem dedup_one {xs : List α} {x : α} (h : ∀ y ∈ xs, y = x) : (dedup xs).length ≤ 1 := by
  have n := nodup_dedup xs
  have h' : ∀ y ∈ dedup xs, y = x := fun y hy => h y (mem_dedup.mp hy)
  cases e : dedup xs with
  | nil => simp
  | cons a l =>
    cases l with
    | nil => simp
    | cons b l =>
      rw [e] at n h'
      have := h' a (by simp)
      have := h' b (by simp)
      subst_vars
      simp at n
end
theorem nodup_of_map' {f : α → β} {l : List α} (h : (l.map f).Nodup) : l.Nodup := List.Pairwise.of_map f (fun _ _ hne e => hne (congrArg f e)) h
theorem map_nodup_iff {f : α → β} {xs : List α} (h : xs.Nodup) : (xs.map f).Nodup ↔ ∀ a ∈ xs, ∀ b ∈ xs, f a = f b → a = b := by
  constructor
  · intro n a ha b hb e
    obtain ⟨i, hi⟩ := List.mem_iff_getElem?.mp ha
    obtain ⟨j, hj⟩ := List.mem_iff_getElem?.mp hb
    have li := (List.getElem?_eq_some_iff.mp hi).1
    have lj := (List.getElem?_eq_some_iff.mp hj).1
    have := ((List.getElem?_inj (by rw [List.length_map]; exact li) n).mp (show (xs.map f)[i]? = (xs.map f)[j]? by rw [List.getElem?_map, List.getElem?_map, hi, hj]; simp [e]))
    subst this
    rw [hi] at hj
    exact Option.some.inj hj
  · intro inj
    exact List.pairwise_map.mpr (List.Pairwise.imp_of_mem (fun {a b} ha hb ne e => ne (inj a ha b hb e)) h)
/-! ### dicts -/
section
variable [DecidableEq κ]
theorem mem_putP {l : List (κ × α)} {k k' : κ} {x x' : α} : (k', x') ∈ putP l k x ↔ (k' = k ∧ x' = x) ∨ (k' ≠ k ∧ (k', x') ∈ l) := by
  unfold putP
  by_cases c : (l.any fun p => decide (p.1 = k)) = true
  · rw [if_pos c, List.mem_map]
    constructor
    · rintro ⟨p, hp, e⟩
      by_cases h : p.1 = k
      · rw [if_pos h] at e; cases e; exact .inl ⟨h, rfl⟩
      · rw [if_neg h] at e; subst e; exact .inr ⟨h, hp⟩
    · rintro (⟨rfl, rfl⟩ | ⟨h, hp⟩)
      · obtain ⟨p, hp, e⟩ := List.any_eq_true.mp c
        have e := of_decide_eq_true e
        exact ⟨p, hp, by rw [if_pos e, e]⟩
      · exact ⟨_, hp, by rw [if_neg h]⟩
  · rw [if_neg c, List.mem_append, List.mem_singleton]
    constructor
    · rintro (h | h)
      · refine .inr ⟨fun e => c (List.any_eq_true.mpr ⟨_, h, by simpa using e⟩), h⟩
      · cases h; exact .inl ⟨rfl, rfl⟩
    · rintro (⟨rfl, rfl⟩ | ⟨_, h⟩)
      · exact .inr rfl
      · exact .inl h
theorem keys_putP {l : List (κ × α)} {k : κ} {x : α} (h : (l.map (·.1)).Nodup) : ((putP l k x).map (·.1)).Nodup := by
  unfold putP
  by_cases c : (l.any fun p => decide (p.1 = k)) = true
  · rw [if_pos c, List.map_map]
    have e : l.map ((·.1) ∘ fun p => if p.1 = k then (p.1, x) else p) = l.map (·.1) := List.map_congr_left fun p _ => by
      show (if p.1 = k then (p.1, x) else p).1 = p.1
      split <;> rfl
    rw [e]; exact h
  · rw [if_neg c, List.map_append, List.nodup_append]
    refine ⟨h, by simp, fun a ha b hb => ?_⟩
    simp at hb
    subst hb
    rintro rfl
    obtain ⟨p, hp, e⟩ := List.mem_map.mp ha
    exact c (List.any_eq_true.mpr ⟨p, hp, decide_eq_true e⟩)
theorem len_putP {l : List (κ × α)} {k : κ} {x : α} : (putP l k x).length ≤ l.length + 1 := by
  unfold putP
  split
  · rw [List.length_map]; omega
  · rw [List.length_append]; exact Nat.le_refl _
theorem putR_is {d : Dict κ α} {k : κ} {x : α} (h : d.l.length < lim) : d.putR k x = .ok ⟨putP d.l k x⟩ := if_pos h
theorem valP_some {l : List (κ × α)} {k : κ} {x : α} (h : (l.map (·.1)).Nodup) : valP l k = some x ↔ (k, x) ∈ l := by
  induction l with
  | nil => simp [valP]
  | cons p l ih =>
    rw [List.map_cons, List.nodup_cons] at h
    unfold valP at ih ⊢
    rw [List.find?_cons, List.mem_cons]
    by_cases e : p.1 = k
    · simp only [e, decide_true, Option.map_some, Option.some.injEq]
      constructor
      · intro q; left; rw [← e, ← q]
      · rintro (q | q)
        · rw [← q]
        · exact absurd (List.mem_map.mpr ⟨_, q, rfl⟩) (by rw [← e]; exact h.1)
    · simp only [e, decide_false]
      rw [ih h.2]
      constructor
      · exact .inr
      · rintro (q | q)
        · exact absurd (by rw [← q]) e
        · exact q
theorem valP_none {l : List (κ × α)} {k : κ} : valP l k = none ↔ ∀ x, (k, x) ∉ l := by
  unfold valP
  rw [Option.map_eq_none_iff, List.find?_eq_none]
  constructor
  · intro h x hx
    exact h _ hx (by simp)
  · intro h p hp q
    have := of_decide_eq_true q
    exact h p.2 (by rw [← this]; exact hp)
end
end
end Vs
end
section
set_option Elab.async false
set_option linter.all false
set_option maxRecDepth 100000
set_option maxHeartbeats 1000000
/-! Vs30: orders on data, zip, reversed, truth of lists, a or b of lists. -/
namespace Vs
open Enc (toD)
open PySem PySem.Spec PyProof.Rows L2
section
variable {X : Cx} {W : WX} {ρ : Rs} {pos : Pos} {α β γ S τ Ω : Type} [Enc α] [Enc β] [Enc γ]
section
variable [DecidableEq α] [PyEq α] [Ord1 α] [PyLt α]
theorem reads2 {pins : List (Addr × Obj)} {σ : St} {F H : Hp} {s : Shared} {vx : V} {v : Value} {x : α} (I : Inv X pins σ H s) (sf : Sub F H) (r : RpH X.K F H vx (toD x)) (rx : RelV vx v) : ∃ as, Reads s.heap v (toD x) as :=
  Dp.reads I _ _ _ (r.dp sf (PyEq.lay x)) rx
theorem room2 {A : Around} (hu : A.units + 64 < cLine) (h : PyEq.dp α ≤ 60) (x y : α) : A.units + min (toD x).depth (toD y).depth < cLine := by
  have := PyEq.dep x
  omega
theorem c_ltD (hu : X.A.units + 64 < cLine) (h : PyEq.dp α ≤ 60 := by decide) : CmpOk X .Lt (fun a b : α => Ord1.lt a b) := fun pins s σ H vx vy u1 u2 Q I rx ry ⟨F, x, y, sf, q1, q2, q⟩ => by
  obtain ⟨as, r1⟩ := reads2 I sf q1 rx
  obtain ⟨bs, r2⟩ := reads2 I sf q2 ry
  exact PySem.W.lt_data r1 r2 (PyLt.al x y) (PyLt.nn x) (room2 hu h x y) ⟨.bl _, H, I, by rw [PyLt.ok]; rfl, q⟩
theorem c_gtD (hu : X.A.units + 64 < cLine) (h : PyEq.dp α ≤ 60 := by decide) : CmpOk X .Gt (fun a b : α => Ord1.lt b a) := fun pins s σ H vx vy u1 u2 Q I rx ry ⟨F, x, y, sf, q1, q2, q⟩ => by
  obtain ⟨as, r1⟩ := reads2 I sf q1 rx
  obtain ⟨bs, r2⟩ := reads2 I sf q2 ry
  exact PySem.W.gt_data r1 r2 (PyLt.al x y) (PyLt.nn x) (room2 hu h x y) ⟨.bl _, H, I, by rw [PyLt.ok]; rfl, q⟩
theorem c_leD (hu : X.A.units + 64 < cLine) (h : PyEq.dp α ≤ 60 := by decide) : CmpOk X .LtE (fun a b : α => !Ord1.lt b a) := fun pins s σ H vx vy u1 u2 Q I rx ry ⟨F, x, y, sf, q1, q2, q⟩ => by
  obtain ⟨as, r1⟩ := reads2 I sf q1 rx
  obtain ⟨bs, r2⟩ := reads2 I sf q2 ry
  exact PySem.W.le_data r1 r2 (PyLt.al x y) (PyLt.nn x) (room2 hu h x y) ⟨.bl _, H, I, by rw [PyLt.ok]; rfl, q⟩
theorem c_geD (hu : X.A.units + 64 < cLine) (h : PyEq.dp α ≤ 60 := by decide) : CmpOk X .GtE (fun a b : α => !Ord1.lt a b) := fun pins s σ H vx vy u1 u2 Q I rx ry ⟨F, x, y, sf, q1, q2, q⟩ => by
  obtain ⟨as, r1⟩ := reads2 I sf q1 rx
  obtain ⟨bs, r2⟩ := reads2 I sf q2 ry
  exact PySem.W.ge_data r1 r2 (PyLt.al x y) (PyLt.nn x) (room2 hu h x y) ⟨.bl _, H, I, by rw [PyLt.ok]; rfl, q⟩
end
/-! ### zip -/
theorem PA.len {es : List Expr} {t : TA} (h : PA X es t) : PA X es (fun σ H Q => t σ H fun vs H1 => (∀ a xs, H1 a = some (.lst xs) → xs.length ≤ sizeLine) → Q vs H1) :=
  ⟨fun ps pins s σ H Q I q => thn (h.run ps pins s σ H _ I q) fun us s1 ⟨vs, H1, I1, r, q1⟩ => ⟨vs, H1, I1, r, q1 fun a xs e => (I1.hok a _ e).1⟩⟩
theorem it_zip {K : PySem.W.Frag} {F : Hp} {a b : Addr} {vs ws : List V} {xs : List α} {ys : List β} (e : F a = some (.lst vs)) (r : RpAll K F vs (xs.map toD)) (e' : F b = some (.lst ws)) (r' : RpAll K F ws (ys.map toD)) : ItOk K (Itz K a b) F ((xs.zip ys).map toD) := by
  have l1 : vs.length = xs.length := by rw [r.length, List.length_map]
  have l2 : ws.length = ys.length := by rw [r'.length, List.length_map]
  have hl : ((xs.zip ys).map (toD : α × β → PyData)).length = min xs.length ys.length := by rw [List.length_map, List.length_zip]
  refine ⟨fun i F1 H1 s1 s2 hi => ?_, fun i F1 H1 d x H2 s1 s2 hd hy => ?_, fun i F1 H1 s1 s2 hi => ?_⟩
  · rw [hl] at hi
    have h1 : i < vs.length := by omega
    have h2 : i < ws.length := by omega
    exact ⟨vs, ws, vs[i], ws[i], .inl (.inl (s2 _ _ (s1 _ _ e))), .inl (.inl (s2 _ _ (s1 _ _ e'))), List.getElem?_eq_getElem h1, List.getElem?_eq_getElem h2⟩
  · obtain ⟨T, v, w, rfl, nT, rfl, hx, hy⟩ := hy
    have hx' := hx vs (.inl (.inl (s2 _ _ (s1 _ _ e))))
    have hy' := hy ws (.inl (.inl (s2 _ _ (s1 _ _ e'))))
    obtain ⟨d1, g1, g2⟩ := r.get' hx'
    obtain ⟨d2, g3, g4⟩ := r'.get' hy'
    refine ⟨_, .new s2 nT, ?_⟩
    have hi := (List.getElem?_eq_some_iff.mp hd).1
    rw [hl] at hi
    have i1 : i < xs.length := by omega
    have i2 : i < ys.length := by omega
    have iz : i < (xs.zip ys).length := by rw [List.length_zip]; omega
    rw [List.getElem?_map, List.getElem?_eq_getElem i1] at g1
    rw [List.getElem?_map, List.getElem?_eq_getElem i2] at g3
    cases g1; cases g3
    rw [List.getElem?_map, List.getElem?_eq_getElem iz, List.getElem_zip] at hd
    cases hd
    exact .tup upd_same (.cons ((g2.sub s1).sub (sub_upd (sub_free s2 nT))) (.cons ((g4.sub s1).sub (sub_upd (sub_free s2 nT))) .nil))
  · rw [hl] at hi
    exact ⟨vs, ws, .inl (.inl (s2 _ _ (s1 _ _ e))), .inl (.inl (s2 _ _ (s1 _ _ e'))), by omega⟩
theorem XI.zip {e e2 : Expr} {p tpos : Pos} {elts : List Expr} {kk : Nat} {ma : Res (List α)} {mb : Res (List β)} (hm : X.mg "zip" = none) (ha : XV X W ρ e ma) (hb : XV X W ρ e2 mb) (hg : Gl X "zip" := by rfl)
    (hs : starEach [e, e2] X.env = (false, eval e X.env) :: starEach [e2] X.env := by rfl) (hs2 : starEach [e2] X.env = [(false, eval e2 X.env)] := by rfl) (hpl : (backTo pos (starEach [e2] X.env)).any (·.1) = false := by rfl) :
    XI X W ρ (.Tuple elts kk tpos) (.Call (.Name "zip" p) [e, e2] [] pos) (do
    let xs ← ma
    let ys ← mb
    .ok (xs.zip ys)) := by
  refine PI.imp (pi_zip hg hm (PA.len (XA.cons ha (XA.cons hb XA.nil hs2) hs)) hs hpl) fun σ H R ⟨F0, H0, F, Rh, p⟩ => ⟨F0, H0, F, Rh, ?_⟩
  cases ma with
  | exc c i => exact p
  | stuck => exact p
  | ok x => cases mb with
    | exc c i => exact p
    | stuck => exact p
    | ok y =>
      intro vs F1 H1 g1 r1 hz
      cases r1 with
      | cons r1 t => cases t with
        | cons r2 t =>
          cases t
          obtain ⟨a, us, rfl, e1, e2⟩ := Rp.lst_of r1
          obtain ⟨b, ws, rfl, e3, e4⟩ := Rp.lst_of r2
          refine ⟨a, b, us, ws, rfl, .inl (.inl (g1.fh _ _ e1)), .inl (.inl (g1.fh _ _ e3)), p _ F1 H1 g1 (it_zip e1 e2 e3 e4) ?_⟩
          have h1 := hz a us (g1.fh _ _ e1)
          have h2 := e2.length
          rw [List.length_map] at h2 ⊢
          rw [List.length_zip]
          omega
theorem it_rev {K : PySem.W.Frag} {F : Hp} {a : Addr} {vs : List V} {xs : List α} (e : F a = some (.lst vs)) (r : RpAll K F vs (xs.map toD)) : ItOk K (Itv K a vs.length) F (xs.reverse.map toD) := by
  have l1 : vs.length = xs.length := by rw [r.length, List.length_map]
  have hl : (xs.reverse.map (toD : α → PyData)).length = vs.length := by rw [List.length_map, List.length_reverse, l1]
  refine ⟨fun i F1 H1 s1 s2 hi => ?_, fun i F1 H1 d x H2 s1 s2 hd hy => ?_, fun i F1 H1 s1 s2 hi => ?_⟩
  · rw [hl] at hi
    exact ⟨hi, vs, vs[vs.length - 1 - i]'(by omega), .inl (.inl (s2 _ _ (s1 _ _ e))), List.getElem?_eq_getElem _⟩
  · obtain ⟨rfl, hx⟩ := hy
    have hx' := hx vs (.inl (.inl (s2 _ _ (s1 _ _ e))))
    obtain ⟨d1, g1, g2⟩ := r.get' hx'
    refine ⟨F1, .refl s2, ?_⟩
    have hi := (List.getElem?_eq_some_iff.mp hd).1
    rw [hl] at hi
    rw [List.getElem?_map, List.getElem?_reverse (by omega)] at hd
    rw [List.getElem?_map, l1] at g1
    rw [g1] at hd
    cases hd
    exact g2.sub s1
  · rw [hl] at hi
    exact hi
theorem XI.rev {tg e : Expr} {p : Pos} {m : Res (List α)} (hm : X.mg "reversed" = none) (he : XV X W ρ e m) (hg : Gl X "reversed" := by rfl) (hs : starEach [e] X.env = [(false, eval e X.env)] := by rfl) :
    XI X W ρ tg (.Call (.Name "reversed" p) [e] [] pos) (do
    let xs ← m
    .ok xs.reverse) := by
  refine PI.imp (pi_reversed hg hm (PA.len (XA.cons he XA.nil hs)) hs) fun σ H R ⟨F0, H0, F, Rh, p⟩ => ⟨F0, H0, F, Rh, ?_⟩
  cases m with
  | exc c i => exact p
  | stuck => exact p
  | ok x =>
    intro vs F1 H1 g1 r1 hz
    cases r1 with
    | cons r1 t =>
      cases t
      obtain ⟨a, us, rfl, e1, e2⟩ := Rp.lst_of r1
      refine ⟨a, us, rfl, .inl (.inl (g1.fh _ _ e1)), p _ F1 H1 g1 (it_rev e1 e2) ?_⟩
      have h1 := hz a us (g1.fh _ _ e1)
      have h2 := e2.length
      rw [List.length_map] at h2 ⊢
      rw [List.length_reverse]
      omega
/-! ### truth -/
theorem tru_list {K : PySem.W.Frag} {F H : Hp} {v : V} {xs : List α} (sf : Sub F H) (r : RpH K F H v (toD xs)) : TruV K v H (!xs.isEmpty) := by
  obtain ⟨a, vs, rfl, e1, e2⟩ := r.lst_of sf
  refine .inl ⟨vs, .inl (.inl e1), ?_⟩
  have := e2.length
  rw [List.length_map] at this
  cases vs <;> cases xs <;> simp at this <;> rfl
theorem XT.truL {e : Expr} {m : Res (List α)} (h : XW X W ρ e m) (he : ∀ whole, isTrue e X.env whole = (do let v ← whole; standAt e.pos; holding [v] (truthy v)) := by intro _; rfl) : XT X W ρ e (do
    let xs ← m
    .ok (!xs.isEmpty)) := by
  refine PT.imp (pt_truth h he) fun σ H Q ⟨F0, H0, F, R, p⟩ => ⟨F0, H0, F, R, ?_⟩
  cases m with
  | exc c i => exact p
  | stuck => exact p
  | ok x => exact fun v F1 H1 g1 r1 => ⟨!x.isEmpty, tru_list g1.fh r1, p F1 H1 g1⟩
theorem XT.truI {e : Expr} {m : Res Int} (h : XV X W ρ e m) (he : ∀ whole, isTrue e X.env whole = (do let v ← whole; standAt e.pos; holding [v] (truthy v)) := by intro _; rfl) : XT X W ρ e (do
    let x ← m
    .ok (!decide (x = 0))) := by
  refine PT.imp (pt_truth h he) fun σ H Q ⟨F0, H0, F, R, p⟩ => ⟨F0, H0, F, R, ?_⟩
  cases m with
  | exc c i => exact p
  | stuck => exact p
  | ok x => exact fun v F1 H1 g1 r1 => ⟨!decide (x = 0), by
      rw [r1.int_of]
      show _ = (x != 0)
      by_cases q : x = 0
      · subst q; rfl
      · rw [decide_eq_false q]; simp [q], p F1 H1 g1⟩
/-- a or b, of lists -/
theorem XV.orL {a b : Expr} {rest : List Expr} {ma mb : Res (List α)} (ha : XV X W ρ a ma) (hb : XV X W ρ (.BoolOp .Or (b :: rest) pos) mb) : XV X W ρ (.BoolOp .Or (a :: b :: rest) pos) (do
    let x ← ma
    if x.isEmpty then mb else .ok x) := by
  refine PE.imp (pe_orT ha hb) fun σ H Q ⟨F0, H0, F, R, p⟩ => ⟨F0, H0, F, R, ?_⟩
  cases ma with
  | exc c i => exact p
  | stuck => exact p
  | ok x =>
    intro v F1 H1 g1 r1
    have p1 := PostV.grow g1 p
    refine ⟨!x.isEmpty, tru_list g1.fh (.inl r1), ?_⟩
    cases e : x.isEmpty with
    | true =>
      simp only [Res.ok_bind, e, if_true] at p1
      simp only [Bool.not_true, Bool.false_eq_true, if_false]
      exact ⟨F0, H0, F1, R.grow g1, p1⟩
    | false =>
      simp only [Res.ok_bind, e, Bool.false_eq_true, if_false] at p1
      simp only [Bool.not_false, if_true]
      exact p1 _ F1 H1 (.refl g1.fh) r1
theorem XV.oneL {o : BoolOp} {a : Expr} {m : Res (List α)} (h : XV X W ρ a m) : XV X W ρ (.BoolOp o [a] pos) m := pe_one h
/-! ### how long a display is -/
theorem ll_nil : ∀ xs, Res.ok ([] : List α) = .ok xs → xs.length ≤ 0 := fun xs h => by cases h; exact Nat.le_refl 0
theorem ll_cons {m : Res α} {k : Res (List α)} {n : Nat} (h : ∀ xs, k = .ok xs → xs.length ≤ n) : ∀ xs, (m >>= fun x => k >>= fun xs => .ok (x :: xs)) = .ok xs → xs.length ≤ n + 1 := fun xs q => by
  obtain ⟨a, _, q⟩ := Res.eq_ok_of_bind q
  obtain ⟨b, hb, q⟩ := Res.eq_ok_of_bind q
  cases q
  exact Nat.succ_le_succ (h b hb)
theorem ll_fin {m : Res (List α)} {n : Nat} (h : ∀ xs, m = .ok xs → xs.length ≤ n) (hn : n ≤ 1000 := by decide) : ∀ xs, m = .ok xs → xs.length ≤ 1000 := fun xs q => Nat.le_trans (h xs q) hn
end
end Vs
end
section
set_option Elab.async false
set_option linter.all false
set_option maxRecDepth 100000
set_option maxHeartbeats 1000000
/-! Vs31: plain lemmas on walks: two walks alike, walks that gather, loops, rows that rise. -/
namespace Vs
open Enc (toD)
open PySem PySem.Spec PyProof.Rows
section
variable {α β γ σ τ : Type}
theorem foldR_congr {f g : σ → α → Res σ} : ∀ {xs : List α} {s : σ}, (∀ x ∈ xs, ∀ s, f s x = g s x) → foldR f xs s = foldR g xs s
  | [], _, _ => rfl
  | x :: xs, s, h => by
    show (f s x >>= fun s' => foldR f xs s') = (g s x >>= fun s' => foldR g xs s')
    rw [h x List.mem_cons_self]
    cases g s x with
    | ok s' => exact foldR_congr fun y hy => h y (List.mem_cons_of_mem _ hy)
    | exc c i => rfl
    | stuck => rfl
theorem foldR_two {f : σ → α → Res σ} {g : σ → β → Res σ} : ∀ {xs : List α} {ys : List β} {s : σ}, xs.length = ys.length → (∀ (k : Nat) x y, xs[k]? = some x → ys[k]? = some y → ∀ s, f s x = g s y) → foldR f xs s = foldR g ys s
  | [], [], _, _, _ => rfl
  | [], _ :: _, _, h, _ => by simp at h
  | _ :: _, [], _, h, _ => by simp at h
  | x :: xs, y :: ys, s, hl, h => by
    show (f s x >>= fun s' => foldR f xs s') = (g s y >>= fun s' => foldR g ys s')
    rw [h 0 x y rfl rfl]
    cases g s y with
    | ok s' => exact foldR_two (by simpa using hl) fun k a b ha hb => h (k + 1) a b (by simpa using ha) (by simpa using hb)
    | exc c i => rfl
    | stuck => rfl
theorem foldR_enum {f : σ → Int × α → Res σ} {g : σ → α → Res σ} {xs : List α} {s : σ} (h : ∀ (k : Nat) x, xs[k]? = some x → ∀ s, f s ((k : Int), x) = g s x) : foldR f (enumL xs) s = foldR g xs s :=
  foldR_two (enumL_len xs) fun k p x hp hx s => by
    obtain ⟨h1, h2⟩ := enumL_get hp
    rw [hx] at h2; cases h2
    rw [← h k p.2 hx s, ← h1]
theorem foldR_range {f : σ → Int → Res σ} {g : σ → α → Res σ} {xs : List α} {lo : Nat} {s : σ} (hl : lo ≤ xs.length) (h : ∀ (k : Nat) x, lo ≤ k → xs[k]? = some x → ∀ s, f s (k : Int) = g s x) : foldR f (rangeL (lo : Int) (lenL xs)) s = foldR g (xs.drop lo) s :=
  foldR_two (by rw [rangeL_length, List.length_drop]; unfold lenL; omega) fun k i x hi hx s => by
    have hk := (List.getElem?_eq_some_iff.mp hi).1
    rw [rangeL_length] at hk
    rw [rangeL_get hk] at hi
    cases hi
    rw [List.getElem?_drop] at hx
    have := h (lo + k) x (by omega) hx s
    rw [← this, Int.natCast_add]
theorem foldR_filter {g : σ → α → Res σ} {b : α → Bool} : ∀ {xs : List α} {s : σ}, foldR (fun s x => if b x then g s x else .ok s) xs s = foldR g (xs.filter b) s
  | [], _ => rfl
  | x :: xs, s => by
    show ((if b x then g s x else .ok s) >>= fun s' => foldR _ xs s') = _
    rw [List.filter_cons]
    cases b x with
    | true =>
      simp only [if_true]
      show _ = (g s x >>= fun s' => foldR g (xs.filter b) s')
      cases g s x with
      | ok s' => exact foldR_filter
      | exc c i => rfl
      | stuck => rfl
    | false =>
      simp only [Bool.false_eq_true, if_false]
      exact foldR_filter
/-- a walk that puts g x behind what it has -/
theorem foldR_flat {f : List β → α → Res (List β)} {g : α → List β} {B : Nat} : ∀ {xs : List α} {s : List β}, (∀ x ∈ xs, ∀ s, s.length + (g x).length ≤ B → f s x = .ok (s ++ g x)) → s.length + (xs.flatMap g).length ≤ B → foldR f xs s = .ok (s ++ xs.flatMap g)
  | [], s, _, _ => by rw [List.flatMap_nil, List.append_nil]; rfl
  | x :: xs, s, h, hb => by
    rw [List.flatMap_cons, List.length_append] at hb
    show (f s x >>= fun s' => foldR f xs s') = _
    rw [h x List.mem_cons_self s (by omega)]
    show foldR f xs (s ++ g x) = _
    rw [foldR_flat (fun y hy => h y (List.mem_cons_of_mem _ hy)) (by rw [List.length_append]; omega), List.flatMap_cons, List.append_assoc]
theorem flatMap_len {g : α → List β} {n : Nat} : ∀ {xs : List α}, (∀ x ∈ xs, (g x).length ≤ n) → (xs.flatMap g).length ≤ n * xs.length
  | [], _ => by simp
  | x :: xs, h => by
    rw [List.flatMap_cons, List.length_append, List.length_cons, Nat.mul_add]
    have := h x List.mem_cons_self
    have := flatMap_len (xs := xs) fun y hy => h y (List.mem_cons_of_mem _ hy)
    omega
/-! ### loops -/
theorem whileR_stop {c : σ → Res Bool} {b : σ → Res σ} {s : σ} (h : c s = .ok false) : whileR c b s = .ok s := by
  rw [whileR_unfold, h]; rfl
theorem whileR_step {c : σ → Res Bool} {b : σ → Res σ} {s s' : σ} (h : c s = .ok true) (h2 : b s = .ok s') : whileR c b s = whileR c b s' := by
  rw [whileR_unfold, h]
  show (b s >>= whileR c b) = _
  rw [h2]; rfl
/-! ### rows that rise -/
section
variable [Ord1 α] [DecidableEq α] [OrdT α]
abbrev Up (xs : List α) : Prop := xs.Pairwise fun a b => Ord1.lt a b = true
theorem up_drop : ∀ {xs : List α} {k : Nat} {x : α}, Up xs → xs[k]? = some x → xs.filter (fun y => Ord1.lt x y) = xs.drop (k + 1)
  | [], k, x, _, h => by simp at h
  | y :: ys, 0, x, u, h => by
    simp at h; subst h
    rw [List.filter_cons, OrdT.irr]
    simp only [Bool.false_eq_true, if_false, Nat.zero_add, List.drop_succ_cons, List.drop_zero]
    exact List.filter_eq_self.mpr fun z hz => (List.pairwise_cons.mp u).1 z hz
  | y :: ys, k + 1, x, u, h => by
    have hx : ys[k]? = some x := by simpa using h
    have := (List.pairwise_cons.mp u).1 x (List.mem_of_getElem? hx)
    rw [List.filter_cons, OrdT.asym this]
    simp only [Bool.false_eq_true, if_false, List.drop_succ_cons]
    exact up_drop (List.pairwise_cons.mp u).2 hx
/-- a row that rises, of members of one -/
theorem up_sublist : ∀ {xs l : List α}, Up xs → Up l → (∀ x ∈ l, x ∈ xs) → l.Sublist xs
  | xs, [], _, _, _ => List.nil_sublist xs
  | [], a :: l, _, _, h => by have := h a List.mem_cons_self; simp at this
  | x :: xs, a :: l, hx, hl, h => by
    have hx' := List.pairwise_cons.mp hx
    have hl' := List.pairwise_cons.mp hl
    rcases List.mem_cons.mp (h a List.mem_cons_self) with rfl | ha
    · exact (up_sublist hx'.2 hl'.2 fun y hy => by
        rcases List.mem_cons.mp (h y (List.mem_cons_of_mem _ hy)) with rfl | q
        · have := hl'.1 y hy; rw [OrdT.irr] at this; cases this
        · exact q).cons₂ _
    · refine (up_sublist hx'.2 hl fun y hy => ?_).cons _
      rcases List.mem_cons.mp (h y hy) with rfl | q
      · rcases List.mem_cons.mp hy with rfl | hy
        · exact ha
        · have h1 := hl'.1 _ hy
          have h2 := hx'.1 a ha
          rw [OrdT.asym h1] at h2; cases h2
      · exact q
theorem sortP_up {xs : List α} (h : Up xs) : sortP xs = xs := sortP_uniq (h.imp fun h => OrdT.asym h) (List.Perm.refl _)
theorem sortS_up {xs : List α} (h : Up xs) : sortS xs = xs := sortS_uniq h fun _ => Iff.rfl
theorem sortS_iff {xs : List α} : xs = sortS xs ↔ Up xs := ⟨fun e => by rw [e]; exact sortS_lt' xs, fun h => (sortS_up h).symm⟩
end
end
end Vs
namespace Vs
open Enc (toD)
open PySem PySem.Spec PyProof.Rows
section
variable {α β : Type}
theorem flatMap_if {b : α → Bool} {g : α → List β} : ∀ {xs : List α}, xs.flatMap (fun x => if b x = true then g x else []) = (xs.filter b).flatMap g
  | [] => rfl
  | x :: xs => by
    rw [List.flatMap_cons, List.filter_cons, flatMap_if]
    cases b x <;> simp
theorem sortL_list [Ord1 α] [DecidableEq α] (xs : List (List α)) : sortL xs = .ok (sortP xs) := if_pos rfl
theorem sortL_pair [Ord1 α] [DecidableEq α] [Ord1 β] (xs : List (α × β)) : sortL xs = .ok (sortP xs) := if_pos rfl
theorem up_last [Ord1 α] [DecidableEq α] [OrdT α] {xs : List α} (h : Up xs) (hn : xs ≠ []) {a : α} (ha : a ∈ xs) : a = xs.getLast hn ∨ Ord1.lt a (xs.getLast hn) = true := by
  rw [← List.dropLast_concat_getLast hn] at h ha
  rcases List.mem_append.mp ha with q | q
  · exact .inr ((List.pairwise_append.mp h).2.2 a q _ (List.mem_singleton.mpr rfl))
  · exact .inl (List.mem_singleton.mp q)
theorem up_snoc [Ord1 α] [DecidableEq α] [OrdT α] {xs : List α} (h : Up xs) (hn : xs ≠ []) {z : α} (hz : Ord1.lt (xs.getLast hn) z = true) : Up (xs ++ [z]) :=
  List.pairwise_append.mpr ⟨h, List.pairwise_singleton _ _, fun a ha b hb => by
    rw [List.mem_singleton.mp hb]
    rcases up_last h hn ha with rfl | q
    · exact hz
    · exact OrdT.tr _ _ _ q hz⟩
theorem memB_t [DecidableEq α] {x : α} {xs : List α} (h : x ∈ xs) : memB x xs = true := memB_iff.mpr h
theorem memB_f [DecidableEq α] {x : α} {xs : List α} (h : x ∉ xs) : memB x xs = false := by
  cases e : memB x xs with
  | false => rfl
  | true => exact absurd (memB_iff.mp e) h
theorem cutL_take {xs : List α} (k : Nat) : cutL xs none (some (k : Int)) = xs.take k := by
  show (xs.drop 0).take (bnd xs.length xs.length (some (k : Int)) - 0) = _
  have : bnd xs.length xs.length (some (k : Int)) = min k xs.length := by
    show (if (k : Int) < 0 then (max ((k : Int) + xs.length) 0).toNat else (min (k : Int) xs.length).toNat) = _
    rw [if_neg (by omega)]; omega
  rw [this, List.drop_zero, Nat.sub_zero, Nat.min_comm, List.take_eq_take_iff]
  omega
theorem cutL_neg1 {xs : List α} {z : α} (h : xs[xs.length - 1]? = some z) : cutL xs (some (-(1 : Int))) none = [z] := by
  have hl := (List.getElem?_eq_some_iff.mp h).1
  show (xs.drop (bnd xs.length 0 (some (-(1 : Int))))).take (xs.length - bnd xs.length 0 (some (-(1 : Int)))) = _
  have : bnd xs.length 0 (some (-(1 : Int))) = xs.length - 1 := by
    show (if (-(1 : Int)) < 0 then (max ((-(1 : Int)) + xs.length) 0).toNat else (min (-(1 : Int)) xs.length).toNat) = _
    rw [if_pos (by decide)]; omega
  rw [this, List.drop_eq_getElem_cons hl, (List.getElem?_eq_some_iff.mp h).2, List.drop_of_length_le (by omega), List.take_of_length_le (by simp; omega)]
end
end Vs
end
section
set_option Elab.async false
set_option linter.all false
set_option maxRecDepth 100000
set_option maxHeartbeats 0
noncomputable section
namespace Law
open Vs.Enc (toD)
open PySem PySem.Spec PyProof.Rows L2 Vs
def top (i : Nat) : Stmt := PySem.Challenge.pw_dugtold_k76_whole_rows_and_houses_of_pos.main.body.getD i (.Pass ⟨0, 0, 0, 0⟩)
abbrev s_check_posts : Stmt := top 8
abbrev s_moved : Stmt := top 9
abbrev s_between : Stmt := top 10
abbrev s_row_from : Stmt := top 11
abbrev s_rows : Stmt := top 12
abbrev s_dot : Stmt := top 13
abbrev s_is_house : Stmt := top 14
abbrev s_houses_of : Stmt := top 15
abbrev s_houses : Stmt := top 16
abbrev s_space : Stmt := top 17
abbrev s_middle : Stmt := top 18
abbrev s__law_draws : Stmt := top 20
abbrev s__law_mix : Stmt := top 21
abbrev s__law_posts : Stmt := top 22
abbrev s__law_is_house : Stmt := top 23
abbrev s__law_houses : Stmt := top 24
abbrev s__law_rows : Stmt := top 25
abbrev s__law_word : Stmt := top 26
abbrev s_law : Stmt := top 27
abbrev kn : List Str := ["WrongSize", "BadPost"]
/-- what the module has not bound, its numbers, its errors -/
structure Bi (P : Program) (K : PySem.W.Frag) (mg : Str → Option Value) : Prop where
  b_abs : mg "abs" = none
  b_all : mg "all" = none
  b_enumerate : mg "enumerate" = none
  b_int : mg "int" = none
  b_len : mg "len" = none
  b_list : mg "list" = none
  b_min : mg "min" = none
  b_range : mg "range" = none
  b_repr : mg "repr" = none
  b_set : mg "set" = none
  b_sorted : mg "sorted" = none
  b_zip : mg "zip" = none
  c_MOST_POSTS : ∃ t, mg "MOST_POSTS" = some (.int 12 t)
  c_MOST_PLACE : ∃ t, mg "MOST_PLACE" = some (.int 60 t)
  c_LEAST_ROW : ∃ t, mg "LEAST_ROW" = some (.int 3 t)
  exm : Exm K kn
  dig : ∀ c ∈ kn, DigT P K mg c
def N.check_posts_l1 (posts : (List (Int × Int))) : (Unit) → (Int × (Int × Int)) → Res (Unit) := fun σ2 ξ3 =>
  (if decide ((0 : Int) ≤ ξ3.2.1) then (.ok (decide (ξ3.2.1 ≤ 60))) else .ok false) >>= fun τ4 => (if (!τ4) then .ok true else ((if decide ((0 : Int) ≤ ξ3.2.2) then (.ok (decide (ξ3.2.2 ≤ 60))) else .ok false) >>= fun τ5 => (if (!τ5) then .ok true else ((if (decide ((0 : Int) < ξ3.1)) then ((getL posts (ξ3.1 - (1 : Int))) >>= fun τ7 => .ok (!Ord1.lt τ7 (ξ3.2.1, ξ3.2.2))) else .ok false) >>= fun τ8 => .ok τ8)) >>= fun τ9 => .ok τ9)) >>= fun τ10 => (if τ10 then dropE (.exc "BadPost" ξ3.1) else
  (.ok ()))
def N.check_posts (posts : (List (Int × Int))) : Res Unit :=
  (if decide ((1 : Int) ≤ (lenL posts)) then (.ok (decide ((lenL posts) ≤ 12))) else .ok false) >>= fun τ1 => (if (!τ1) then dropE (.exc "WrongSize" (lenL posts)) else
  ((foldR (N.check_posts_l1 posts) (enumL posts) ()) >>= fun σ11 => .ok ()))
def M.check_posts (posts : (List (Int × Int))) : Res Unit :=
  ((((.ok (1 : Int)) >>= fun a => ((.ok posts) >>= fun a => Res.ok (lenL a)) >>= fun b => if decide (a ≤ b) then (.ok (12 : Int)) >>= fun c => .ok (decide (b ≤ c)) else .ok false) >>= fun a => Res.ok (!a)) >>= fun b => if b then dropE (((.ok posts) >>= fun a => Res.ok (lenL a)) >>= fun i => .exc "WrongSize" i) else (((.ok posts) >>= fun a => .ok (enumL a)) >>= fun xs => foldR (fun σ2 ξ3 => (((((.ok (0 : Int)) >>= fun a => (.ok ξ3.2.1) >>= fun b => if decide (a ≤ b) then (.ok (60 : Int)) >>= fun c => .ok (decide (b ≤ c)) else .ok false) >>= fun a => Res.ok (!a)) >>= fun c => if c then .ok true else ((((.ok (0 : Int)) >>= fun a => (.ok ξ3.2.2) >>= fun b => if decide (a ≤ b) then (.ok (60 : Int)) >>= fun c => .ok (decide (b ≤ c)) else .ok false) >>= fun a => Res.ok (!a)) >>= fun c => if c then .ok true else (((.ok ξ3.1) >>= fun a => (.ok (0 : Int)) >>= fun b => .ok (decide (b < a))) >>= fun c => if c then (((.ok posts) >>= fun a => ((.ok ξ3.1) >>= fun a => (.ok (1 : Int)) >>= fun b => Res.ok (a - b)) >>= fun b => getL a b) >>= fun a => ((.ok ξ3.2.1) >>= fun a => (.ok ξ3.2.2) >>= fun b => Res.ok (a, b)) >>= fun b => .ok (!Ord1.lt a b)) else .ok false))) >>= fun b => if b then dropE ((.ok ξ3.1) >>= fun i => .exc "BadPost" i) else (.ok ()))) xs () >>= fun σ11 => (.ok ())))
theorem M.check_posts_eq : @M.check_posts = @N.check_posts := by
  funext posts
  delta M.check_posts
  delta N.check_posts
  delta N.check_posts_l1
  simp only [Res.bind_assoc', Res.ok_bind2, Res.bind_ok] <;> rfl
theorem sc_check_posts : FnScope ["posts", "k", "x", "y"] ["posts"] (defScope s_check_posts) := ⟨rfl, rfl, rfl, by decide +kernel, rfl, by decide +kernel, by decide +kernel⟩
theorem ok_check_posts {P : Program} {w : World} {K : PySem.W.Frag} {mg : Str → Option Value} {base : Heap} (bi : Bi P K mg) {fa : Addr} {fd : FuncData} (F : FunD K "check_posts" "check_posts" (defArgs s_check_posts) (defBody s_check_posts) (defScope s_check_posts) [] [] fa fd)   :
    FnV P w K mg base 4 fa fd ["posts"] (Rn1 N.check_posts) := by
  rw [← M.check_posts_eq]
  refine fn1p F sc_check_posts rfl (by decide) fun cdv A outer s H E gr posts => ?_
  have tk : Takes (defX P w K mg base ["posts", "k", "x", "y"] "check_posts" (defScope s_check_posts) fa cdv A outer s H E) (defW E) := takes_of rfl rfl rfl rfl
  have hp : PassesOwn (model (defX P w K mg base ["posts", "k", "x", "y"] "check_posts" (defScope s_check_posts) fa cdv A outer s H E).prog (defX P w K mg base ["posts", "k", "x", "y"] "check_posts" (defScope s_check_posts) fa cdv A outer s H E).w) (defX P w K mg base ["posts", "k", "x", "y"] "check_posts" (defScope s_check_posts) fa cdv A outer s H E).A (defX P w K mg base ["posts", "k", "x", "y"] "check_posts" (defScope s_check_posts) fa cdv A outer s H E).env (defX P w K mg base ["posts", "k", "x", "y"] "check_posts" (defScope s_check_posts) fa cdv A outer s H E).xe := passes_of rfl
  have hN := sc_check_posts.nd
  unfold M.check_posts
  refine XB.ifX ?tst ?_ ?_
  case tst => exact (XT.not (XT.chain c_le c_le (XV.w XV.int) (XV.w (XV.callB b_len (by rfl) bi.b_len (by rfl) (XV.w (XV.var 0 rfl)))) (XV.w (XV.globI bi.c_MOST_POSTS))))
  · skip
    exact XB.raise (bi.dig "WrongSize" (by decide)) gr rfl tk (XV.callB b_len (by rfl) bi.b_len (by rfl) (XV.w (XV.var 0 rfl)))
  · skip
    refine XB.forS (fun (σ2 : Unit) => [(0, SV.sh (toD posts))]) (fun (σ2 : Unit) (ξ3 : (Int × (Int × Int))) => [(3, SV.sh (toD ξ3.2.2)), (2, SV.sh (toD ξ3.2.1)), (1, SV.sh (toD ξ3.1)), (0, SV.sh (toD posts))]) hp rfl (XI.enum bi.b_enumerate (XV.var 0 rfl)) (fun σ2 ξ3 => (XG.tup rfl (XGs.cons (ρ1 := [(1, SV.sh (toD ξ3.1)), (0, SV.sh (toD posts))]) (XG.name 1 [0] hN) (XGs.cons (ρ1 := [(3, SV.sh (toD ξ3.2.2)), (2, SV.sh (toD ξ3.2.1)), (1, SV.sh (toD ξ3.1)), (0, SV.sh (toD posts))]) (XG.tup rfl (XGs.cons (ρ1 := [(2, SV.sh (toD ξ3.2.1)), (1, SV.sh (toD ξ3.1)), (0, SV.sh (toD posts))]) (XG.name 2 [0, 1] hN) (XGs.cons (ρ1 := [(3, SV.sh (toD ξ3.2.2)), (2, SV.sh (toD ξ3.2.1)), (1, SV.sh (toD ξ3.1)), (0, SV.sh (toD posts))]) (XG.name 3 [0, 1, 2] hN) XGs.nil))) XGs.nil)))) ?_ (wk [0]) ?_
    · intro σ2 ξ3
      refine XB.ifX ?tst ?_ ?_
      case tst => exact (XT.pw (XT.or (XT.not (XT.chain c_le c_le (XV.w XV.int) (XV.w (XV.var 1 rfl)) (XV.w (XV.globI bi.c_MOST_PLACE)))) (XT.or (XT.not (XT.chain c_le c_le (XV.w XV.int) (XV.w (XV.var 0 rfl)) (XV.w (XV.globI bi.c_MOST_PLACE)))) (XT.or1 (XT.pw (XT.and (XT.cmp c_gt (XV.w (XV.var 2 rfl)) (XV.w XV.int)) (XT.and1 (XT.cmp (c_geD (α := (Int × Int)) gr.r.units) (XV.w (XV.idx (XV.w (XV.var 3 rfl)) (XV.bin o_sub (XV.var 2 rfl) XV.int))) (XV.w (XV.tup2 (XV.var 1 rfl) (XV.var 0 rfl)))))))))))
      · skip
        exact XB.raise (bi.dig "BadPost" (by decide)) gr rfl tk (XV.var 2 rfl)
      · skip
        exact XB.nilT (t := ()) rfl (wk [3])
    intro σ11
    exact XB.nilT rfl (wk [])
def N.moved (post : (Int × Int)) (step : (Int × Int)) (times : Int) : Res (Int × Int) :=
  (mulI times step.1) >>= fun τ1 => (mulI times step.2) >>= fun τ2 => .ok ((post.1 + τ1), (post.2 + τ2))
def M.moved (post : (Int × Int)) (step : (Int × Int)) (times : Int) : Res (Int × Int) :=
  ((((.ok post) >>= fun a => .ok a.1) >>= fun a => ((.ok times) >>= fun a => ((.ok step) >>= fun a => .ok a.1) >>= fun b => mulI a b) >>= fun b => Res.ok (a + b)) >>= fun a => (((.ok post) >>= fun a => .ok a.2) >>= fun a => ((.ok times) >>= fun a => ((.ok step) >>= fun a => .ok a.2) >>= fun b => mulI a b) >>= fun b => Res.ok (a + b)) >>= fun b => Res.ok (a, b))
theorem M.moved_eq : @M.moved = @N.moved := by
  funext post step times
  delta M.moved
  delta N.moved
  simp only [Res.bind_assoc', Res.ok_bind2, Res.bind_ok] <;> rfl
theorem sc_moved : FnScope ["post", "step", "times"] ["post", "step", "times"] (defScope s_moved) := ⟨rfl, rfl, rfl, by decide +kernel, rfl, by decide +kernel, by decide +kernel⟩
theorem ok_moved {P : Program} {w : World} {K : PySem.W.Frag} {mg : Str → Option Value} {base : Heap} (bi : Bi P K mg) {fa : Addr} {fd : FuncData} (F : FunD K "moved" "moved" (defArgs s_moved) (defBody s_moved) (defScope s_moved) [] [] fa fd)   :
    FnV P w K mg base 2 fa fd ["post", "step", "times"] (Rn3 N.moved) := by
  rw [← M.moved_eq]
  refine fn3 F sc_moved rfl (by decide) fun cdv A outer s H E gr post step times => ?_
  have tk : Takes (defX P w K mg base ["post", "step", "times"] "moved" (defScope s_moved) fa cdv A outer s H E) (defW E) := takes_of rfl rfl rfl rfl
  have hp : PassesOwn (model (defX P w K mg base ["post", "step", "times"] "moved" (defScope s_moved) fa cdv A outer s H E).prog (defX P w K mg base ["post", "step", "times"] "moved" (defScope s_moved) fa cdv A outer s H E).w) (defX P w K mg base ["post", "step", "times"] "moved" (defScope s_moved) fa cdv A outer s H E).A (defX P w K mg base ["post", "step", "times"] "moved" (defScope s_moved) fa cdv A outer s H E).env (defX P w K mg base ["post", "step", "times"] "moved" (defScope s_moved) fa cdv A outer s H E).xe := passes_of rfl
  have hN := sc_moved.nd
  unfold M.moved
  exact XB.ret (XV.tup2 (XV.bin o_add (XV.item (k := 0) (fun a : (Int × Int) => a.1) (fun _ => ⟨_, rfl, rfl⟩) (XV.w (XV.var 0 rfl))) (XV.bin o_mul (XV.var 2 rfl) (XV.item (k := 0) (fun a : (Int × Int) => a.1) (fun _ => ⟨_, rfl, rfl⟩) (XV.w (XV.var 1 rfl))))) (XV.bin o_add (XV.item (k := 1) (fun a : (Int × Int) => a.2) (fun _ => ⟨_, rfl, rfl⟩) (XV.w (XV.var 0 rfl))) (XV.bin o_mul (XV.var 2 rfl) (XV.item (k := 1) (fun a : (Int × Int) => a.2) (fun _ => ⟨_, rfl, rfl⟩) (XV.w (XV.var 1 rfl))))))
def N.between (one : (Int × Int)) (two : (Int × Int)) : Res (Int × Int) :=
  .ok ((two.1 - one.1), (two.2 - one.2))
def M.between (one : (Int × Int)) (two : (Int × Int)) : Res (Int × Int) :=
  ((((.ok two) >>= fun a => .ok a.1) >>= fun a => ((.ok one) >>= fun a => .ok a.1) >>= fun b => Res.ok (a - b)) >>= fun a => (((.ok two) >>= fun a => .ok a.2) >>= fun a => ((.ok one) >>= fun a => .ok a.2) >>= fun b => Res.ok (a - b)) >>= fun b => Res.ok (a, b))
theorem M.between_eq : @M.between = @N.between := by
  funext one two
  delta M.between
  delta N.between
  simp only [Res.bind_assoc', Res.ok_bind2, Res.bind_ok] <;> rfl
theorem sc_between : FnScope ["one", "two"] ["one", "two"] (defScope s_between) := ⟨rfl, rfl, rfl, by decide +kernel, rfl, by decide +kernel, by decide +kernel⟩
theorem ok_between {P : Program} {w : World} {K : PySem.W.Frag} {mg : Str → Option Value} {base : Heap} (bi : Bi P K mg) {fa : Addr} {fd : FuncData} (F : FunD K "between" "between" (defArgs s_between) (defBody s_between) (defScope s_between) [] [] fa fd)   :
    FnV P w K mg base 2 fa fd ["one", "two"] (Rn2 N.between) := by
  rw [← M.between_eq]
  refine fn2 F sc_between rfl (by decide) fun cdv A outer s H E gr one two => ?_
  have tk : Takes (defX P w K mg base ["one", "two"] "between" (defScope s_between) fa cdv A outer s H E) (defW E) := takes_of rfl rfl rfl rfl
  have hp : PassesOwn (model (defX P w K mg base ["one", "two"] "between" (defScope s_between) fa cdv A outer s H E).prog (defX P w K mg base ["one", "two"] "between" (defScope s_between) fa cdv A outer s H E).w) (defX P w K mg base ["one", "two"] "between" (defScope s_between) fa cdv A outer s H E).A (defX P w K mg base ["one", "two"] "between" (defScope s_between) fa cdv A outer s H E).env (defX P w K mg base ["one", "two"] "between" (defScope s_between) fa cdv A outer s H E).xe := passes_of rfl
  have hN := sc_between.nd
  unfold M.between
  exact XB.ret (XV.tup2 (XV.bin o_sub (XV.item (k := 0) (fun a : (Int × Int) => a.1) (fun _ => ⟨_, rfl, rfl⟩) (XV.w (XV.var 1 rfl))) (XV.item (k := 0) (fun a : (Int × Int) => a.1) (fun _ => ⟨_, rfl, rfl⟩) (XV.w (XV.var 0 rfl)))) (XV.bin o_sub (XV.item (k := 1) (fun a : (Int × Int) => a.2) (fun _ => ⟨_, rfl, rfl⟩) (XV.w (XV.var 1 rfl))) (XV.item (k := 1) (fun a : (Int × Int) => a.2) (fun _ => ⟨_, rfl, rfl⟩) (XV.w (XV.var 0 rfl)))))
def N.row_from_c1 (posts : (List (Int × Int))) (step : (Int × Int)) : ((List (Int × Int))) → Res Bool := fun σ1 =>
  (getL σ1 (-(1 : Int))) >>= fun τ4 => (N.moved τ4 step (1 : Int)) >>= fun τ5 => .ok (memB τ5 posts)
def N.row_from_l1 (step : (Int × Int)) : ((List (Int × Int))) → Res ((List (Int × Int))) := fun σ1 =>
  (getL σ1 (-(1 : Int))) >>= fun τ6 => (N.moved τ6 step (1 : Int)) >>= fun τ7 => (pushL σ1 τ7) >>= fun found => .ok found
def N.row_from (posts : (List (Int × Int))) (post : (Int × Int)) (step : (Int × Int)) : Res (List (Int × Int)) :=
  (let found : (List (Int × Int)) := [post]
  (whileR (N.row_from_c1 posts step) (N.row_from_l1 step) found) >>= fun σ8 => .ok σ8)
def M.row_from (posts : (List (Int × Int))) (post : (Int × Int)) (step : (Int × Int)) : Res (List (Int × Int)) :=
  (((.ok post) >>= fun a => Res.ok [a]) >>= fun found => (whileR (fun σ1 => ((((.ok σ1) >>= fun a => ((.ok (1 : Int)) >>= fun a => Res.ok (-a)) >>= fun b => getL a b) >>= fun x1 => (.ok step) >>= fun x2 => (.ok (1 : Int)) >>= fun x3 => N.moved x1 x2 x3) >>= fun a => (.ok posts) >>= fun b => .ok (memB a b))) (fun σ1 => ((((.ok σ1) >>= fun a => ((.ok (1 : Int)) >>= fun a => Res.ok (-a)) >>= fun b => getL a b) >>= fun x1 => (.ok step) >>= fun x2 => (.ok (1 : Int)) >>= fun x3 => N.moved x1 x2 x3) >>= fun y => pushL σ1 y >>= fun found => (.ok found))) found >>= fun σ8 => (.ok σ8)))
theorem M.row_from_eq : @M.row_from = @N.row_from := by
  funext posts post step
  delta M.row_from
  delta N.row_from
  delta N.row_from_l1
  delta N.row_from_c1
  simp only [Res.bind_assoc', Res.ok_bind2, Res.bind_ok] <;> rfl
theorem sc_row_from : FnScope ["posts", "post", "step", "found"] ["posts", "post", "step"] (defScope s_row_from) := ⟨rfl, rfl, rfl, by decide +kernel, rfl, by decide +kernel, by decide +kernel⟩
theorem ok_row_from {P : Program} {w : World} {K : PySem.W.Frag} {mg : Str → Option Value} {base : Heap} (bi : Bi P K mg) {fa : Addr} {fd : FuncData} (F : FunD K "row_from" "row_from" (defArgs s_row_from) (defBody s_row_from) (defScope s_row_from) [] [] fa fd) {f_moved : Addr} {fd_moved : FuncData} (C_moved : FnC K mg "moved" f_moved fd_moved ["post", "step", "times"]) (G_moved : FnV P w K mg base 2 f_moved fd_moved ["post", "step", "times"] (Rn3 N.moved)) :
    FnV P w K mg base 3 fa fd ["posts", "post", "step"] (Rn3 N.row_from) := by
  rw [← M.row_from_eq]
  refine fn3 F sc_row_from rfl (by decide) fun cdv A outer s H E gr posts post step => ?_
  have tk : Takes (defX P w K mg base ["posts", "post", "step", "found"] "row_from" (defScope s_row_from) fa cdv A outer s H E) (defW E) := takes_of rfl rfl rfl rfl
  have hp : PassesOwn (model (defX P w K mg base ["posts", "post", "step", "found"] "row_from" (defScope s_row_from) fa cdv A outer s H E).prog (defX P w K mg base ["posts", "post", "step", "found"] "row_from" (defScope s_row_from) fa cdv A outer s H E).w) (defX P w K mg base ["posts", "post", "step", "found"] "row_from" (defScope s_row_from) fa cdv A outer s H E).A (defX P w K mg base ["posts", "post", "step", "found"] "row_from" (defScope s_row_from) fa cdv A outer s H E).env (defX P w K mg base ["posts", "post", "step", "found"] "row_from" (defScope s_row_from) fa cdv A outer s H E).xe := passes_of rfl
  have hN := sc_row_from.nd
  unfold M.row_from
  refine XB.asgO 3 [0, 2] (fun found => [(3, SV.ow (toD found)), (0, SV.sh (toD posts)), (2, SV.sh (toD step))]) hN ?ex ?_
  case ex => exact (XF.lst1 (XV.var 1 rfl))
  intro found
  refine XB.whileS (fun (σ1 : (List (Int × Int))) => [(3, SV.ow (toD σ1)), (0, SV.sh (toD posts)), (2, SV.sh (toD step))]) hp (fun σ1 => (XT.cmp (c_inB (α := (Int × Int)) gr.r) (XV.w (XV.fn3 (G_moved.mono (by decide)) C_moved gr tk (XV.idx (XW.own 0 rfl) (XV.neg XV.int)) (XV.var 2 rfl) XV.int)) (XV.w (XV.var 1 rfl)))) ?_ (wk [0, 1, 2]) ?_
  · intro σ1
    refine XB.append 0 3 [1, 2] (fun found => [(3, SV.ow (toD found)), (0, SV.sh (toD posts)), (2, SV.sh (toD step))]) rfl ?ex ?_
    case ex => exact (XV.fn3 (G_moved.mono (by decide)) C_moved gr tk (XV.idx (XW.own 0 rfl) (XV.neg XV.int)) (XV.var 2 rfl) XV.int)
    intro found
    exact XB.nilT (t := found) rfl (wk [0, 1, 2])
  intro σ8
  refine XB.freeze (x := σ8) 0 3 [1, 2] [(3, SV.sh (toD σ8)), (0, SV.sh (toD posts)), (2, SV.sh (toD step))] rfl ?_
  exact XB.ret (XV.var 0 rfl)
def N.rows_l1 (posts : (List (Int × Int))) (ξ3 : (Int × (Int × Int))) : ((List (List (Int × Int)))) → (Int × Int) → Res ((List (List (Int × Int)))) := fun σ4 ξ5 =>
  (N.between ξ3.2 ξ5) >>= fun step => (N.row_from posts ξ3.2 step) >>= fun told => (if (decide (3 ≤ (lenL told))) then ((N.moved ξ3.2 step (-(1 : Int))) >>= fun τ9 => .ok (!memB τ9 posts)) else .ok false) >>= fun τ10 => (if τ10 then ((pushL σ4 told) >>= fun found => .ok found) else
  (.ok σ4)) >>= fun σ11 => .ok σ11
def N.rows_l2 (posts : (List (Int × Int))) : ((List (List (Int × Int)))) → (Int × (Int × Int)) → Res ((List (List (Int × Int)))) := fun σ2 ξ3 =>
  (foldR (N.rows_l1 posts ξ3) (cutL posts (some (ξ3.1 + (1 : Int))) none) σ2) >>= fun σ12 => .ok σ12
def N.rows (posts : (List (Int × Int))) : Res (List (List (Int × Int))) :=
  (N.check_posts posts) >>= fun τ1 => (let found : (List (List (Int × Int))) := ([] : (List (List (Int × Int))))
  (foldR (N.rows_l2 posts) (enumL posts) found) >>= fun σ13 => (sortL σ13) >>= fun τ14 => .ok τ14)
def M.rows (posts : (List (Int × Int))) : Res (List (List (Int × Int))) :=
  (((.ok posts) >>= fun x1 => N.check_posts x1) >>= fun _ => ((.ok ([] : (List (List (Int × Int))))) >>= fun found => (((.ok posts) >>= fun a => .ok (enumL a)) >>= fun xs => foldR (fun σ2 ξ3 => (((.ok posts) >>= fun a => (((.ok ξ3.1) >>= fun a => (.ok (1 : Int)) >>= fun b => Res.ok (a + b)) >>= fun z => .ok (some z)) >>= fun b => (.ok none) >>= fun c => Res.ok (cutL a b c)) >>= fun xs => foldR (fun σ4 ξ5 => (((.ok ξ3.2) >>= fun x1 => (.ok ξ5) >>= fun x2 => N.between x1 x2) >>= fun step => (((.ok posts) >>= fun x1 => (.ok ξ3.2) >>= fun x2 => (.ok step) >>= fun x3 => N.row_from x1 x2 x3) >>= fun told => (((((.ok told) >>= fun a => Res.ok (lenL a)) >>= fun a => (.ok (3 : Int)) >>= fun b => .ok (decide (b ≤ a))) >>= fun c => if c then (((.ok ξ3.2) >>= fun x1 => (.ok step) >>= fun x2 => ((.ok (1 : Int)) >>= fun a => Res.ok (-a)) >>= fun x3 => N.moved x1 x2 x3) >>= fun a => (.ok posts) >>= fun b => .ok (!memB a b)) else .ok false) >>= fun b => (if b then ((.ok told) >>= fun y => pushL σ4 y >>= fun found => (.ok found)) else (.ok σ4)) >>= fun σ11 => (.ok σ11))))) xs σ2 >>= fun σ12 => (.ok σ12))) xs found >>= fun σ13 => ((.ok σ13) >>= fun a => sortL a))))
theorem M.rows_eq : @M.rows = @N.rows := by
  funext posts
  delta M.rows
  delta N.rows
  delta N.rows_l2
  delta N.rows_l1
  simp only [Res.bind_assoc', Res.ok_bind2, Res.bind_ok] <;> rfl
theorem sc_rows : FnScope ["posts", "found", "k", "one", "two", "step", "told"] ["posts"] (defScope s_rows) := ⟨rfl, rfl, rfl, by decide +kernel, rfl, by decide +kernel, by decide +kernel⟩
theorem ok_rows {P : Program} {w : World} {K : PySem.W.Frag} {mg : Str → Option Value} {base : Heap} (bi : Bi P K mg) {fa : Addr} {fd : FuncData} (F : FunD K "rows" "rows" (defArgs s_rows) (defBody s_rows) (defScope s_rows) [] [] fa fd) {f_check_posts : Addr} {fd_check_posts : FuncData} (C_check_posts : FnC K mg "check_posts" f_check_posts fd_check_posts ["posts"]) {f_moved : Addr} {fd_moved : FuncData} (C_moved : FnC K mg "moved" f_moved fd_moved ["post", "step", "times"]) {f_between : Addr} {fd_between : FuncData} (C_between : FnC K mg "between" f_between fd_between ["one", "two"]) {f_row_from : Addr} {fd_row_from : FuncData} (C_row_from : FnC K mg "row_from" f_row_from fd_row_from ["posts", "post", "step"]) (G_check_posts : FnV P w K mg base 4 f_check_posts fd_check_posts ["posts"] (Rn1 N.check_posts)) (G_moved : FnV P w K mg base 2 f_moved fd_moved ["post", "step", "times"] (Rn3 N.moved)) (G_between : FnV P w K mg base 2 f_between fd_between ["one", "two"] (Rn2 N.between)) (G_row_from : FnV P w K mg base 3 f_row_from fd_row_from ["posts", "post", "step"] (Rn3 N.row_from)) :
    FnV P w K mg base 5 fa fd ["posts"] (Rn1 N.rows) := by
  rw [← M.rows_eq]
  refine fn1 F sc_rows rfl (by decide) fun cdv A outer s H E gr posts => ?_
  have tk : Takes (defX P w K mg base ["posts", "found", "k", "one", "two", "step", "told"] "rows" (defScope s_rows) fa cdv A outer s H E) (defW E) := takes_of rfl rfl rfl rfl
  have hp : PassesOwn (model (defX P w K mg base ["posts", "found", "k", "one", "two", "step", "told"] "rows" (defScope s_rows) fa cdv A outer s H E).prog (defX P w K mg base ["posts", "found", "k", "one", "two", "step", "told"] "rows" (defScope s_rows) fa cdv A outer s H E).w) (defX P w K mg base ["posts", "found", "k", "one", "two", "step", "told"] "rows" (defScope s_rows) fa cdv A outer s H E).A (defX P w K mg base ["posts", "found", "k", "one", "two", "step", "told"] "rows" (defScope s_rows) fa cdv A outer s H E).env (defX P w K mg base ["posts", "found", "k", "one", "two", "step", "told"] "rows" (defScope s_rows) fa cdv A outer s H E).xe := passes_of rfl
  have hN := sc_rows.nd
  unfold M.rows
  refine XB.expr ?ex ?_
  case ex => exact (XV.fn1 (G_check_posts.mono (by decide)) C_check_posts gr tk (XV.var 0 rfl))
  refine XB.asgO 1 [0] (fun found => [(1, SV.ow (toD found)), (0, SV.sh (toD posts))]) hN ?ex ?_
  case ex => exact XF.lst0
  intro found
  refine XB.forS (fun (σ2 : (List (List (Int × Int)))) => [(1, SV.ow (toD σ2)), (0, SV.sh (toD posts))]) (fun (σ2 : (List (List (Int × Int)))) (ξ3 : (Int × (Int × Int))) => [(3, SV.sh (toD ξ3.2)), (2, SV.sh (toD ξ3.1)), (1, SV.ow (toD σ2)), (0, SV.sh (toD posts))]) hp rfl (XI.enum bi.b_enumerate (XV.var 1 rfl)) (fun σ2 ξ3 => (XG.tup rfl (XGs.cons (ρ1 := [(2, SV.sh (toD ξ3.1)), (1, SV.ow (toD σ2)), (0, SV.sh (toD posts))]) (XG.name 2 [0, 1] hN) (XGs.cons (ρ1 := [(3, SV.sh (toD ξ3.2)), (2, SV.sh (toD ξ3.1)), (1, SV.ow (toD σ2)), (0, SV.sh (toD posts))]) (XG.name 3 [0, 1, 2] hN) XGs.nil)))) ?_ (wk [0, 1]) ?_
  · intro σ2 ξ3
    refine XB.forS (fun (σ4 : (List (List (Int × Int)))) => [(1, SV.ow (toD σ4)), (3, SV.sh (toD ξ3.2)), (0, SV.sh (toD posts))]) (fun (σ4 : (List (List (Int × Int)))) (ξ5 : (Int × Int)) => [(4, SV.sh (toD ξ5)), (1, SV.ow (toD σ4)), (3, SV.sh (toD ξ3.2)), (0, SV.sh (toD posts))]) hp rfl (XI.list (XF.v (XF.slice (XV.w (XV.var 3 rfl)) (XO.some (XV.bin o_add (XV.var 1 rfl) XV.int)) XO.none))) (fun σ4 ξ5 => (XG.name 4 [0, 1, 2] hN)) ?_ (wk [2, 0, 3]) ?_
    · intro σ4 ξ5
      refine XB.asg 5 [1, 2, 3] (fun step => [(5, SV.sh (toD step)), (1, SV.ow (toD σ4)), (3, SV.sh (toD ξ3.2)), (0, SV.sh (toD posts))]) hN ?ex ?_
      case ex => exact (XV.fn2 (G_between.mono (by decide)) C_between gr tk (XV.var 2 rfl) (XV.var 0 rfl))
      intro step
      refine XB.asg 6 [0, 1, 2, 3] (fun told => [(6, SV.sh (toD told)), (5, SV.sh (toD step)), (1, SV.ow (toD σ4)), (3, SV.sh (toD ξ3.2)), (0, SV.sh (toD posts))]) hN ?ex ?_
      case ex => exact (XV.fn3 (G_row_from.mono (by decide)) C_row_from gr tk (XV.var 3 rfl) (XV.var 2 rfl) (XV.var 0 rfl))
      intro told
      refine XB.ifN (fun (σ11 : (List (List (Int × Int)))) => [(1, SV.ow (toD σ11)), (3, SV.sh (toD ξ3.2)), (0, SV.sh (toD posts))]) ?tst ?_ ?_ ?_
      case tst => exact (XT.pw (XT.and (XT.cmp c_ge (XV.w (XV.callB b_len (by rfl) bi.b_len (by rfl) (XV.w (XV.var 0 rfl)))) (XV.w (XV.globI bi.c_LEAST_ROW))) (XT.and1 (XT.cmp (c_notinB (α := (Int × Int)) gr.r) (XV.w (XV.fn3 (G_moved.mono (by decide)) C_moved gr tk (XV.var 3 rfl) (XV.var 1 rfl) (XV.neg XV.int))) (XV.w (XV.var 4 rfl))))))
      · skip
        refine XB.append 2 1 [3, 4] (fun found => [(1, SV.ow (toD found)), (3, SV.sh (toD ξ3.2)), (0, SV.sh (toD posts))]) rfl ?ex ?_
        case ex => exact (XV.var 0 rfl)
        intro found
        exact XB.nilT (t := found) rfl (wk [0, 1, 2])
      · skip
        exact XB.nilT (t := σ4) rfl (wk [2, 3, 4])
      intro σ11
      exact XB.nilT (t := σ11) rfl (wk [0, 1, 2])
    intro σ12
    exact XB.nilT (t := σ12) rfl (wk [0, 2])
  intro σ13
  exact XB.ret (XF.v (XF.callB (b_sorted (α := (List (Int × Int))) gr.r.units) (by rfl) bi.b_sorted (by rfl) (XW.own 0 rfl)))
def N.dot (one : (Int × Int)) (two : (Int × Int)) : Res Int :=
  (mulI one.1 two.1) >>= fun τ2 => (mulI one.2 two.2) >>= fun τ3 => .ok (τ2 + τ3)
def M.dot (one : (Int × Int)) (two : (Int × Int)) : Res Int :=
  ((((.ok one) >>= fun a => .ok a.1) >>= fun a => ((.ok two) >>= fun a => .ok a.1) >>= fun b => mulI a b) >>= fun a => (((.ok one) >>= fun a => .ok a.2) >>= fun a => ((.ok two) >>= fun a => .ok a.2) >>= fun b => mulI a b) >>= fun b => Res.ok (a + b))
theorem M.dot_eq : @M.dot = @N.dot := by
  funext one two
  delta M.dot
  delta N.dot
  simp only [Res.bind_assoc', Res.ok_bind2, Res.bind_ok] <;> rfl
theorem sc_dot : FnScope ["one", "two"] ["one", "two"] (defScope s_dot) := ⟨rfl, rfl, rfl, by decide +kernel, rfl, by decide +kernel, by decide +kernel⟩
theorem ok_dot {P : Program} {w : World} {K : PySem.W.Frag} {mg : Str → Option Value} {base : Heap} (bi : Bi P K mg) {fa : Addr} {fd : FuncData} (F : FunD K "dot" "dot" (defArgs s_dot) (defBody s_dot) (defScope s_dot) [] [] fa fd)   :
    FnV P w K mg base 2 fa fd ["one", "two"] (Rn2 N.dot) := by
  rw [← M.dot_eq]
  refine fn2 F sc_dot rfl (by decide) fun cdv A outer s H E gr one two => ?_
  have tk : Takes (defX P w K mg base ["one", "two"] "dot" (defScope s_dot) fa cdv A outer s H E) (defW E) := takes_of rfl rfl rfl rfl
  have hp : PassesOwn (model (defX P w K mg base ["one", "two"] "dot" (defScope s_dot) fa cdv A outer s H E).prog (defX P w K mg base ["one", "two"] "dot" (defScope s_dot) fa cdv A outer s H E).w) (defX P w K mg base ["one", "two"] "dot" (defScope s_dot) fa cdv A outer s H E).A (defX P w K mg base ["one", "two"] "dot" (defScope s_dot) fa cdv A outer s H E).env (defX P w K mg base ["one", "two"] "dot" (defScope s_dot) fa cdv A outer s H E).xe := passes_of rfl
  have hN := sc_dot.nd
  unfold M.dot
  exact XB.ret (XV.bin o_add (XV.bin o_mul (XV.item (k := 0) (fun a : (Int × Int) => a.1) (fun _ => ⟨_, rfl, rfl⟩) (XV.w (XV.var 0 rfl))) (XV.item (k := 0) (fun a : (Int × Int) => a.1) (fun _ => ⟨_, rfl, rfl⟩) (XV.w (XV.var 1 rfl)))) (XV.bin o_mul (XV.item (k := 1) (fun a : (Int × Int) => a.2) (fun _ => ⟨_, rfl, rfl⟩) (XV.w (XV.var 0 rfl))) (XV.item (k := 1) (fun a : (Int × Int) => a.2) (fun _ => ⟨_, rfl, rfl⟩) (XV.w (XV.var 1 rfl)))))
def N.is_house (posts : (List (Int × Int))) (house : (List (Int × Int))) : Res Bool :=
  (if (!decide ((lenL house) = (4 : Int))) then .ok true else ((lcR (fun ξ3 => .ok true) (fun ξ3 => .ok (memB ξ3 posts)) house) >>= fun τ4 => .ok (!(τ4.all id)))) >>= fun τ5 => (if τ5 then (.ok false) else
  ((lcR (fun ξ8 => .ok true) (fun ξ8 => .ok (Ord1.lt ξ8.1 ξ8.2)) (house.zip (cutL house (some (1 : Int)) none))) >>= fun τ9 => (if (!(τ9.all id)) then (.ok false) else
  ((unL4 house) >>= fun π11 => (N.between π11.a π11.b) >>= fun first => (N.between π11.a π11.c) >>= fun second => (N.moved π11.b second (1 : Int)) >>= fun τ15 => (if (decide (τ15 = π11.d)) then ((N.dot first second) >>= fun τ17 => .ok (decide (τ17 = (0 : Int)))) else .ok false) >>= fun τ18 => .ok τ18))))
def M.is_house (posts : (List (Int × Int))) (house : (List (Int × Int))) : Res Bool :=
  (((((.ok house) >>= fun a => Res.ok (lenL a)) >>= fun a => (.ok (4 : Int)) >>= fun b => .ok (!decide (a = b))) >>= fun c => if c then .ok true else ((((.ok house) >>= fun xs => lcR (fun ξ3 => (.ok true)) (fun ξ3 => ((.ok ξ3) >>= fun a => (.ok posts) >>= fun b => .ok (memB a b))) xs) >>= fun a => Res.ok (a.all id)) >>= fun a => Res.ok (!a))) >>= fun b => if b then .ok false else ((((((.ok house) >>= fun a => ((.ok house) >>= fun a => ((.ok (1 : Int)) >>= fun z => .ok (some z)) >>= fun b => (.ok none) >>= fun c => Res.ok (cutL a b c)) >>= fun b => .ok (a.zip b)) >>= fun xs => lcR (fun ξ8 => (.ok true)) (fun ξ8 => ((.ok ξ8.1) >>= fun a => (.ok ξ8.2) >>= fun b => .ok (Ord1.lt a b))) xs) >>= fun a => Res.ok (a.all id)) >>= fun a => Res.ok (!a)) >>= fun b => if b then .ok false else (((.ok house) >>= unL4) >>= fun π11 => (((.ok π11.a) >>= fun x1 => (.ok π11.b) >>= fun x2 => N.between x1 x2) >>= fun first => (((.ok π11.a) >>= fun x1 => (.ok π11.c) >>= fun x2 => N.between x1 x2) >>= fun second => ((((.ok π11.b) >>= fun x1 => (.ok second) >>= fun x2 => (.ok (1 : Int)) >>= fun x3 => N.moved x1 x2 x3) >>= fun a => (.ok π11.d) >>= fun b => .ok (decide (a = b))) >>= fun c => if c then (((.ok first) >>= fun x1 => (.ok second) >>= fun x2 => N.dot x1 x2) >>= fun a => (.ok (0 : Int)) >>= fun b => .ok (decide (a = b))) else .ok false))))))
theorem M.is_house_eq : @M.is_house = @N.is_house := by
  funext posts house
  delta M.is_house
  delta N.is_house
  simp only [Res.bind_assoc', Res.ok_bind2, Res.bind_ok] <;> rfl
theorem sc_is_house : FnScope ["posts", "house", "post", "one", "two", "a", "b", "c", "d", "first", "second"] ["posts", "house"] (defScope s_is_house) := ⟨rfl, rfl, rfl, by decide +kernel, rfl, by decide +kernel, by decide +kernel⟩
theorem ok_is_house {P : Program} {w : World} {K : PySem.W.Frag} {mg : Str → Option Value} {base : Heap} (bi : Bi P K mg) {fa : Addr} {fd : FuncData} (F : FunD K "is_house" "is_house" (defArgs s_is_house) (defBody s_is_house) (defScope s_is_house) [] [] fa fd) {f_moved : Addr} {fd_moved : FuncData} (C_moved : FnC K mg "moved" f_moved fd_moved ["post", "step", "times"]) {f_between : Addr} {fd_between : FuncData} (C_between : FnC K mg "between" f_between fd_between ["one", "two"]) {f_dot : Addr} {fd_dot : FuncData} (C_dot : FnC K mg "dot" f_dot fd_dot ["one", "two"]) (G_moved : FnV P w K mg base 2 f_moved fd_moved ["post", "step", "times"] (Rn3 N.moved)) (G_between : FnV P w K mg base 2 f_between fd_between ["one", "two"] (Rn2 N.between)) (G_dot : FnV P w K mg base 2 f_dot fd_dot ["one", "two"] (Rn2 N.dot)) :
    FnV P w K mg base 3 fa fd ["posts", "house"] (Rn2 N.is_house) := by
  rw [← M.is_house_eq]
  refine fn2 F sc_is_house rfl (by decide) fun cdv A outer s H E gr posts house => ?_
  have tk : Takes (defX P w K mg base ["posts", "house", "post", "one", "two", "a", "b", "c", "d", "first", "second"] "is_house" (defScope s_is_house) fa cdv A outer s H E) (defW E) := takes_of rfl rfl rfl rfl
  have hp : PassesOwn (model (defX P w K mg base ["posts", "house", "post", "one", "two", "a", "b", "c", "d", "first", "second"] "is_house" (defScope s_is_house) fa cdv A outer s H E).prog (defX P w K mg base ["posts", "house", "post", "one", "two", "a", "b", "c", "d", "first", "second"] "is_house" (defScope s_is_house) fa cdv A outer s H E).w) (defX P w K mg base ["posts", "house", "post", "one", "two", "a", "b", "c", "d", "first", "second"] "is_house" (defScope s_is_house) fa cdv A outer s H E).A (defX P w K mg base ["posts", "house", "post", "one", "two", "a", "b", "c", "d", "first", "second"] "is_house" (defScope s_is_house) fa cdv A outer s H E).env (defX P w K mg base ["posts", "house", "post", "one", "two", "a", "b", "c", "d", "first", "second"] "is_house" (defScope s_is_house) fa cdv A outer s H E).xe := passes_of rfl
  have hN := sc_is_house.nd
  unfold M.is_house
  refine XB.ifR ?tst ?_ ?_ (by intro t h ρ2 h2; cases h2)
  case tst => exact (XT.pw (XT.or (XT.cmp (c_ne (α := Int) gr.r) (XV.w (XV.callB b_len (by rfl) bi.b_len (by rfl) (XV.w (XV.var 1 rfl)))) (XV.w XV.int)) (XT.or1 (XT.not (XT.val (XV.callB (b_all rfl) (by rfl) bi.b_all (by rfl) (XF.w (XF.lc [("post", 2)] [0, 1] [(0, SV.sh (toD posts)), (1, SV.sh (toD house))] (fun ξ3 => [(2, SV.sh (toD ξ3)), (0, SV.sh (toD posts)), (1, SV.sh (toD house))]) rfl hN (XI.list (XV.var 1 rfl)) (by rfl) (fun ξ3 _ _ _ _ _ => (XG.name 2 [0, 1] hN)) (fun ξ3 _ _ _ _ _ => XTs.nil) (fun ξ3 _ _ _ _ _ => (XV.cmp (c_inB (α := (Int × Int)) gr.r) (XV.w (XV.var 0 rfl)) (XV.w (XV.var 1 rfl))))))))))))
  · skip
    exact XB.ret XV.bool
  · skip
    refine XB.ifR ?tst ?_ ?_ (by intro t h ρ2 h2; cases h2)
    case tst => exact (XT.not (XT.val (XV.callB (b_all rfl) (by rfl) bi.b_all (by rfl) (XF.w (XF.lc [("one", 3), ("two", 4)] [0, 1] [(0, SV.sh (toD posts)), (1, SV.sh (toD house))] (fun ξ8 => [(4, SV.sh (toD ξ8.2)), (3, SV.sh (toD ξ8.1)), (0, SV.sh (toD posts)), (1, SV.sh (toD house))]) rfl hN (XI.zip bi.b_zip (XV.var 1 rfl) (XF.v (XF.slice (XV.w (XV.var 1 rfl)) (XO.some XV.int) XO.none))) (by rfl) (fun ξ8 _ _ _ _ _ => (XG.tup rfl (XGs.cons (ρ1 := [(3, SV.sh (toD ξ8.1)), (0, SV.sh (toD posts)), (1, SV.sh (toD house))]) (XG.name 3 [0, 1] hN) (XGs.cons (ρ1 := [(4, SV.sh (toD ξ8.2)), (3, SV.sh (toD ξ8.1)), (0, SV.sh (toD posts)), (1, SV.sh (toD house))]) (XG.name 4 [0, 1, 2] hN) XGs.nil)))) (fun ξ8 _ _ _ _ _ => XTs.nil) (fun ξ8 _ _ _ _ _ => (XV.cmp (c_ltD (α := (Int × Int)) gr.r.units) (XV.w (XV.var 1 rfl)) (XV.w (XV.var 0 rfl)))))))))
    · skip
      exact XB.ret XV.bool
    · skip
      refine XB.asgT [5, 6, 7, 8] (fun π11 => [(8, SV.sh (toD π11.d)), (7, SV.sh (toD π11.c)), (6, SV.sh (toD π11.b)), (5, SV.sh (toD π11.a))]) hN ?ex (fun π11 => XG.weak (ρ0 := []) ((XG.lst rfl (XGs.cons (ρ1 := [(5, SV.sh (toD π11.a))]) (XG.name 5 [] hN) (XGs.cons (ρ1 := [(6, SV.sh (toD π11.b)), (5, SV.sh (toD π11.a))]) (XG.name 6 [0] hN) (XGs.cons (ρ1 := [(7, SV.sh (toD π11.c)), (6, SV.sh (toD π11.b)), (5, SV.sh (toD π11.a))]) (XG.name 7 [0, 1] hN) (XGs.cons (ρ1 := [(8, SV.sh (toD π11.d)), (7, SV.sh (toD π11.c)), (6, SV.sh (toD π11.b)), (5, SV.sh (toD π11.a))]) (XG.name 8 [0, 1, 2] hN) XGs.nil)))))) (wk [])) ?_
      case ex => exact (XV.unL4 (XV.var 1 rfl))
      intro π11
      refine XB.asg 9 [0, 1, 2, 3] (fun first => [(9, SV.sh (toD first)), (8, SV.sh (toD π11.d)), (7, SV.sh (toD π11.c)), (6, SV.sh (toD π11.b)), (5, SV.sh (toD π11.a))]) hN ?ex ?_
      case ex => exact (XV.fn2 (G_between.mono (by decide)) C_between gr tk (XV.var 3 rfl) (XV.var 2 rfl))
      intro first
      refine XB.asg 10 [0, 1, 3] (fun second => [(10, SV.sh (toD second)), (9, SV.sh (toD first)), (8, SV.sh (toD π11.d)), (6, SV.sh (toD π11.b))]) hN ?ex ?_
      case ex => exact (XV.fn2 (G_between.mono (by decide)) C_between gr tk (XV.var 4 rfl) (XV.var 2 rfl))
      intro second
      exact XB.ret (XV.and (XV.cmp (c_eq (α := (Int × Int)) gr.r) (XV.w (XV.fn3 (G_moved.mono (by decide)) C_moved gr tk (XV.var 3 rfl) (XV.var 0 rfl) XV.int)) (XV.w (XV.var 2 rfl))) (XV.one (XV.cmp (c_eq (α := Int) gr.r) (XV.w (XV.fn2 (G_dot.mono (by decide)) C_dot gr tk (XV.var 1 rfl) (XV.var 0 rfl))) (XV.w XV.int))))
def N.houses_of_l1 (posts : (List (Int × Int))) (ξ2 : (Int × (Int × Int))) (ξ5 : Int) : ((List (List (Int × Int)))) → (Int × Int) → Res ((List (List (Int × Int)))) := fun σ6 ξ7 =>
  (getL posts ξ5) >>= fun τ8 => (N.between ξ2.2 ξ7) >>= fun τ9 => (N.moved τ8 τ9 (1 : Int)) >>= fun d' => (if (memB d' posts) then ((getL posts ξ5) >>= fun τ15 => (N.is_house posts [ξ2.2, τ15, ξ7, d']) >>= fun τ16 => .ok τ16) else .ok false) >>= fun τ17 => (if τ17 then ((getL posts ξ5) >>= fun τ19 => (pushL σ6 [ξ2.2, τ19, ξ7, d']) >>= fun found => .ok found) else
  (.ok σ6)) >>= fun σ20 => .ok σ20
def N.houses_of_l2 (posts : (List (Int × Int))) (ξ2 : (Int × (Int × Int))) : ((List (List (Int × Int)))) → Int → Res ((List (List (Int × Int)))) := fun σ4 ξ5 =>
  (foldR (N.houses_of_l1 posts ξ2 ξ5) (cutL posts (some (ξ5 + (1 : Int))) none) σ4) >>= fun σ21 => .ok σ21
def N.houses_of_l3 (posts : (List (Int × Int))) : ((List (List (Int × Int)))) → (Int × (Int × Int)) → Res ((List (List (Int × Int)))) := fun σ1 ξ2 =>
  (rangeR (ξ2.1 + (1 : Int)) (lenL posts)) >>= fun τ3 => (foldR (N.houses_of_l2 posts ξ2) τ3 σ1) >>= fun σ22 => .ok σ22
def N.houses_of (posts : (List (Int × Int))) : Res (List (List (Int × Int))) :=
  (let found : (List (List (Int × Int))) := ([] : (List (List (Int × Int))))
  (foldR (N.houses_of_l3 posts) (enumL posts) found) >>= fun σ23 => (sortL σ23) >>= fun τ24 => .ok τ24)
def M.houses_of (posts : (List (Int × Int))) : Res (List (List (Int × Int))) :=
  ((.ok ([] : (List (List (Int × Int))))) >>= fun found => (((.ok posts) >>= fun a => .ok (enumL a)) >>= fun xs => foldR (fun σ1 ξ2 => ((((.ok ξ2.1) >>= fun a => (.ok (1 : Int)) >>= fun b => Res.ok (a + b)) >>= fun a => ((.ok posts) >>= fun a => Res.ok (lenL a)) >>= fun b => rangeR a b) >>= fun xs => foldR (fun σ4 ξ5 => (((.ok posts) >>= fun a => (((.ok ξ5) >>= fun a => (.ok (1 : Int)) >>= fun b => Res.ok (a + b)) >>= fun z => .ok (some z)) >>= fun b => (.ok none) >>= fun c => Res.ok (cutL a b c)) >>= fun xs => foldR (fun σ6 ξ7 => ((((.ok posts) >>= fun a => (.ok ξ5) >>= fun b => getL a b) >>= fun x1 => ((.ok ξ2.2) >>= fun x1 => (.ok ξ7) >>= fun x2 => N.between x1 x2) >>= fun x2 => (.ok (1 : Int)) >>= fun x3 => N.moved x1 x2 x3) >>= fun d' => ((((.ok d') >>= fun a => (.ok posts) >>= fun b => .ok (memB a b)) >>= fun c => if c then ((.ok posts) >>= fun x1 => ((.ok ξ2.2) >>= fun x => (((.ok posts) >>= fun a => (.ok ξ5) >>= fun b => getL a b) >>= fun x => ((.ok ξ7) >>= fun x => ((.ok d') >>= fun x => (.ok []) >>= fun xs => .ok (x :: xs)) >>= fun xs => .ok (x :: xs)) >>= fun xs => .ok (x :: xs)) >>= fun xs => .ok (x :: xs)) >>= fun x2 => N.is_house x1 x2) else .ok false) >>= fun b => (if b then (((.ok ξ2.2) >>= fun x => (((.ok posts) >>= fun a => (.ok ξ5) >>= fun b => getL a b) >>= fun x => ((.ok ξ7) >>= fun x => ((.ok d') >>= fun x => (.ok []) >>= fun xs => .ok (x :: xs)) >>= fun xs => .ok (x :: xs)) >>= fun xs => .ok (x :: xs)) >>= fun xs => .ok (x :: xs)) >>= fun y => pushL σ6 y >>= fun found => (.ok found)) else (.ok σ6)) >>= fun σ20 => (.ok σ20)))) xs σ4 >>= fun σ21 => (.ok σ21))) xs σ1 >>= fun σ22 => (.ok σ22))) xs found >>= fun σ23 => ((.ok σ23) >>= fun a => sortL a)))
theorem M.houses_of_eq : @M.houses_of = @N.houses_of := by
  funext posts
  delta M.houses_of
  delta N.houses_of
  delta N.houses_of_l3
  delta N.houses_of_l2
  delta N.houses_of_l1
  simp only [Res.bind_assoc', Res.ok_bind2, Res.bind_ok] <;> rfl
theorem sc_houses_of : FnScope ["posts", "found", "i", "a", "j", "c", "d"] ["posts"] (defScope s_houses_of) := ⟨rfl, rfl, rfl, by decide +kernel, rfl, by decide +kernel, by decide +kernel⟩
theorem ok_houses_of {P : Program} {w : World} {K : PySem.W.Frag} {mg : Str → Option Value} {base : Heap} (bi : Bi P K mg) {fa : Addr} {fd : FuncData} (F : FunD K "houses_of" "houses_of" (defArgs s_houses_of) (defBody s_houses_of) (defScope s_houses_of) [] [] fa fd) {f_moved : Addr} {fd_moved : FuncData} (C_moved : FnC K mg "moved" f_moved fd_moved ["post", "step", "times"]) {f_between : Addr} {fd_between : FuncData} (C_between : FnC K mg "between" f_between fd_between ["one", "two"]) {f_is_house : Addr} {fd_is_house : FuncData} (C_is_house : FnC K mg "is_house" f_is_house fd_is_house ["posts", "house"]) (G_moved : FnV P w K mg base 2 f_moved fd_moved ["post", "step", "times"] (Rn3 N.moved)) (G_between : FnV P w K mg base 2 f_between fd_between ["one", "two"] (Rn2 N.between)) (G_is_house : FnV P w K mg base 3 f_is_house fd_is_house ["posts", "house"] (Rn2 N.is_house)) :
    FnV P w K mg base 4 fa fd ["posts"] (Rn1 N.houses_of) := by
  rw [← M.houses_of_eq]
  refine fn1 F sc_houses_of rfl (by decide) fun cdv A outer s H E gr posts => ?_
  have tk : Takes (defX P w K mg base ["posts", "found", "i", "a", "j", "c", "d"] "houses_of" (defScope s_houses_of) fa cdv A outer s H E) (defW E) := takes_of rfl rfl rfl rfl
  have hp : PassesOwn (model (defX P w K mg base ["posts", "found", "i", "a", "j", "c", "d"] "houses_of" (defScope s_houses_of) fa cdv A outer s H E).prog (defX P w K mg base ["posts", "found", "i", "a", "j", "c", "d"] "houses_of" (defScope s_houses_of) fa cdv A outer s H E).w) (defX P w K mg base ["posts", "found", "i", "a", "j", "c", "d"] "houses_of" (defScope s_houses_of) fa cdv A outer s H E).A (defX P w K mg base ["posts", "found", "i", "a", "j", "c", "d"] "houses_of" (defScope s_houses_of) fa cdv A outer s H E).env (defX P w K mg base ["posts", "found", "i", "a", "j", "c", "d"] "houses_of" (defScope s_houses_of) fa cdv A outer s H E).xe := passes_of rfl
  have hN := sc_houses_of.nd
  unfold M.houses_of
  refine XB.asgO 1 [0] (fun found => [(1, SV.ow (toD found)), (0, SV.sh (toD posts))]) hN ?ex ?_
  case ex => exact XF.lst0
  intro found
  refine XB.forS (fun (σ1 : (List (List (Int × Int)))) => [(1, SV.ow (toD σ1)), (0, SV.sh (toD posts))]) (fun (σ1 : (List (List (Int × Int)))) (ξ2 : (Int × (Int × Int))) => [(3, SV.sh (toD ξ2.2)), (2, SV.sh (toD ξ2.1)), (1, SV.ow (toD σ1)), (0, SV.sh (toD posts))]) hp rfl (XI.enum bi.b_enumerate (XV.var 1 rfl)) (fun σ1 ξ2 => (XG.tup rfl (XGs.cons (ρ1 := [(2, SV.sh (toD ξ2.1)), (1, SV.ow (toD σ1)), (0, SV.sh (toD posts))]) (XG.name 2 [0, 1] hN) (XGs.cons (ρ1 := [(3, SV.sh (toD ξ2.2)), (2, SV.sh (toD ξ2.1)), (1, SV.ow (toD σ1)), (0, SV.sh (toD posts))]) (XG.name 3 [0, 1, 2] hN) XGs.nil)))) ?_ (wk [0, 1]) ?_
  · intro σ1 ξ2
    refine XB.forS (fun (σ4 : (List (List (Int × Int)))) => [(1, SV.ow (toD σ4)), (3, SV.sh (toD ξ2.2)), (0, SV.sh (toD posts))]) (fun (σ4 : (List (List (Int × Int)))) (ξ5 : Int) => [(4, SV.sh (toD ξ5)), (1, SV.ow (toD σ4)), (3, SV.sh (toD ξ2.2)), (0, SV.sh (toD posts))]) hp rfl (XI.range2 bi.b_range (XV.bin o_add (XV.var 1 rfl) XV.int) (XV.callB b_len (by rfl) bi.b_len (by rfl) (XV.w (XV.var 3 rfl)))) (fun σ4 ξ5 => (XG.name 4 [0, 1, 2] hN)) ?_ (wk [2, 0, 3]) ?_
    · intro σ4 ξ5
      refine XB.forS (fun (σ6 : (List (List (Int × Int)))) => [(1, SV.ow (toD σ6)), (4, SV.sh (toD ξ5)), (3, SV.sh (toD ξ2.2)), (0, SV.sh (toD posts))]) (fun (σ6 : (List (List (Int × Int)))) (ξ7 : (Int × Int)) => [(5, SV.sh (toD ξ7)), (1, SV.ow (toD σ6)), (4, SV.sh (toD ξ5)), (3, SV.sh (toD ξ2.2)), (0, SV.sh (toD posts))]) hp rfl (XI.list (XF.v (XF.slice (XV.w (XV.var 3 rfl)) (XO.some (XV.bin o_add (XV.var 0 rfl) XV.int)) XO.none))) (fun σ6 ξ7 => (XG.name 5 [0, 1, 2, 3] hN)) ?_ (wk [1, 0, 2, 3]) ?_
      · intro σ6 ξ7
        refine XB.asg 6 [0, 1, 2, 3, 4] (fun d' => [(6, SV.sh (toD d')), (5, SV.sh (toD ξ7)), (1, SV.ow (toD σ6)), (4, SV.sh (toD ξ5)), (3, SV.sh (toD ξ2.2)), (0, SV.sh (toD posts))]) hN ?ex ?_
        case ex => exact (XV.fn3 (G_moved.mono (by decide)) C_moved gr tk (XV.idx (XV.w (XV.var 4 rfl)) (XV.var 2 rfl)) (XV.fn2 (G_between.mono (by decide)) C_between gr tk (XV.var 3 rfl) (XV.var 0 rfl)) XV.int)
        intro d'
        refine XB.ifN (fun (σ20 : (List (List (Int × Int)))) => [(1, SV.ow (toD σ20)), (4, SV.sh (toD ξ5)), (3, SV.sh (toD ξ2.2)), (0, SV.sh (toD posts))]) ?tst ?_ ?_ ?_
        case tst => exact (XT.pw (XT.and (XT.cmp (c_inB (α := (Int × Int)) gr.r) (XV.w (XV.var 0 rfl)) (XV.w (XV.var 5 rfl))) (XT.and1 (XT.val (XV.fn2 (G_is_house.mono (by decide)) C_is_house gr tk (XV.var 5 rfl) (XF.v (XF.lstN (XL.cons (XV.var 4 rfl) (XL.cons (XV.idx (XV.w (XV.var 5 rfl)) (XV.var 3 rfl)) (XL.cons (XV.var 1 rfl) (XL.cons (XV.var 0 rfl) XL.nil)))) (ll_fin (ll_cons (ll_cons (ll_cons (ll_cons ll_nil))))))))))))
        · skip
          refine XB.append 2 1 [3, 4, 5] (fun found => [(1, SV.ow (toD found)), (4, SV.sh (toD ξ5)), (3, SV.sh (toD ξ2.2)), (0, SV.sh (toD posts))]) rfl ?ex ?_
          case ex => exact (XF.v (XF.lstN (XL.cons (XV.var 4 rfl) (XL.cons (XV.idx (XV.w (XV.var 5 rfl)) (XV.var 3 rfl)) (XL.cons (XV.var 1 rfl) (XL.cons (XV.var 0 rfl) XL.nil)))) (ll_fin (ll_cons (ll_cons (ll_cons (ll_cons ll_nil)))))))
          intro found
          exact XB.nilT (t := found) rfl (wk [0, 1, 2, 3])
        · skip
          exact XB.nilT (t := σ6) rfl (wk [2, 3, 4, 5])
        intro σ20
        exact XB.nilT (t := σ20) rfl (wk [0, 1, 2, 3])
      intro σ21
      exact XB.nilT (t := σ21) rfl (wk [0, 2, 3])
    intro σ22
    exact XB.nilT (t := σ22) rfl (wk [0, 2])
  intro σ23
  exact XB.ret (XF.v (XF.callB (b_sorted (α := (List (Int × Int))) gr.r.units) (by rfl) bi.b_sorted (by rfl) (XW.own 0 rfl)))
def N.houses (posts : (List (Int × Int))) : Res (List (List (Int × Int))) :=
  (N.check_posts posts) >>= fun τ1 => (N.houses_of posts) >>= fun τ2 => .ok τ2
def M.houses (posts : (List (Int × Int))) : Res (List (List (Int × Int))) :=
  (((.ok posts) >>= fun x1 => N.check_posts x1) >>= fun _ => ((.ok posts) >>= fun x1 => N.houses_of x1))
theorem M.houses_eq : @M.houses = @N.houses := by
  funext posts
  delta M.houses
  delta N.houses
  simp only [Res.bind_assoc', Res.ok_bind2, Res.bind_ok] <;> rfl
theorem sc_houses : FnScope ["posts"] ["posts"] (defScope s_houses) := ⟨rfl, rfl, rfl, by decide +kernel, rfl, by decide +kernel, by decide +kernel⟩
theorem ok_houses {P : Program} {w : World} {K : PySem.W.Frag} {mg : Str → Option Value} {base : Heap} (bi : Bi P K mg) {fa : Addr} {fd : FuncData} (F : FunD K "houses" "houses" (defArgs s_houses) (defBody s_houses) (defScope s_houses) [] [] fa fd) {f_check_posts : Addr} {fd_check_posts : FuncData} (C_check_posts : FnC K mg "check_posts" f_check_posts fd_check_posts ["posts"]) {f_houses_of : Addr} {fd_houses_of : FuncData} (C_houses_of : FnC K mg "houses_of" f_houses_of fd_houses_of ["posts"]) (G_check_posts : FnV P w K mg base 4 f_check_posts fd_check_posts ["posts"] (Rn1 N.check_posts)) (G_houses_of : FnV P w K mg base 4 f_houses_of fd_houses_of ["posts"] (Rn1 N.houses_of)) :
    FnV P w K mg base 5 fa fd ["posts"] (Rn1 N.houses) := by
  rw [← M.houses_eq]
  refine fn1 F sc_houses rfl (by decide) fun cdv A outer s H E gr posts => ?_
  have tk : Takes (defX P w K mg base ["posts"] "houses" (defScope s_houses) fa cdv A outer s H E) (defW E) := takes_of rfl rfl rfl rfl
  have hp : PassesOwn (model (defX P w K mg base ["posts"] "houses" (defScope s_houses) fa cdv A outer s H E).prog (defX P w K mg base ["posts"] "houses" (defScope s_houses) fa cdv A outer s H E).w) (defX P w K mg base ["posts"] "houses" (defScope s_houses) fa cdv A outer s H E).A (defX P w K mg base ["posts"] "houses" (defScope s_houses) fa cdv A outer s H E).env (defX P w K mg base ["posts"] "houses" (defScope s_houses) fa cdv A outer s H E).xe := passes_of rfl
  have hN := sc_houses.nd
  unfold M.houses
  refine XB.expr ?ex ?_
  case ex => exact (XV.fn1 (G_check_posts.mono (by decide)) C_check_posts gr tk (XV.var 0 rfl))
  exact XB.ret (XV.fn1 (G_houses_of.mono (by decide)) C_houses_of gr tk (XV.var 0 rfl))
def N.space (posts : (List (Int × Int))) (house : (List (Int × Int))) : Res (Option Int) :=
  (N.check_posts posts) >>= fun τ1 => (N.is_house posts house) >>= fun τ3 => (if (!τ3) then (.ok none) else
  ((getL house (0 : Int)) >>= fun τ4 => (getL house (1 : Int)) >>= fun τ5 => (N.between τ4 τ5) >>= fun one => (getL house (0 : Int)) >>= fun τ7 => (getL house (2 : Int)) >>= fun τ8 => (N.between τ7 τ8) >>= fun two => (mulI one.1 two.2) >>= fun τ10 => (mulI one.2 two.1) >>= fun τ11 => .ok (some (absI (τ10 - τ11)))))
def M.space (posts : (List (Int × Int))) (house : (List (Int × Int))) : Res (Option Int) :=
  (((.ok posts) >>= fun x1 => N.check_posts x1) >>= fun _ => ((((.ok posts) >>= fun x1 => (.ok house) >>= fun x2 => N.is_house x1 x2) >>= fun a => Res.ok (!a)) >>= fun b => if b then (.ok (none : (Option Int))) else ((((.ok house) >>= fun a => (.ok (0 : Int)) >>= fun b => getL a b) >>= fun x1 => ((.ok house) >>= fun a => (.ok (1 : Int)) >>= fun b => getL a b) >>= fun x2 => N.between x1 x2) >>= fun one => ((((.ok house) >>= fun a => (.ok (0 : Int)) >>= fun b => getL a b) >>= fun x1 => ((.ok house) >>= fun a => (.ok (2 : Int)) >>= fun b => getL a b) >>= fun x2 => N.between x1 x2) >>= fun two => ((((((.ok one) >>= fun a => .ok a.1) >>= fun a => ((.ok two) >>= fun a => .ok a.2) >>= fun b => mulI a b) >>= fun a => (((.ok one) >>= fun a => .ok a.2) >>= fun a => ((.ok two) >>= fun a => .ok a.1) >>= fun b => mulI a b) >>= fun b => Res.ok (a - b)) >>= fun a => Res.ok (absI a)) >>= fun z => .ok (some z))))))
theorem M.space_eq : @M.space = @N.space := by
  funext posts house
  delta M.space
  delta N.space
  simp only [Res.bind_assoc', Res.ok_bind2, Res.bind_ok] <;> rfl
theorem sc_space : FnScope ["posts", "house", "one", "two"] ["posts", "house"] (defScope s_space) := ⟨rfl, rfl, rfl, by decide +kernel, rfl, by decide +kernel, by decide +kernel⟩
theorem ok_space {P : Program} {w : World} {K : PySem.W.Frag} {mg : Str → Option Value} {base : Heap} (bi : Bi P K mg) {fa : Addr} {fd : FuncData} (F : FunD K "space" "space" (defArgs s_space) (defBody s_space) (defScope s_space) [] [] fa fd) {f_check_posts : Addr} {fd_check_posts : FuncData} (C_check_posts : FnC K mg "check_posts" f_check_posts fd_check_posts ["posts"]) {f_between : Addr} {fd_between : FuncData} (C_between : FnC K mg "between" f_between fd_between ["one", "two"]) {f_is_house : Addr} {fd_is_house : FuncData} (C_is_house : FnC K mg "is_house" f_is_house fd_is_house ["posts", "house"]) (G_check_posts : FnV P w K mg base 4 f_check_posts fd_check_posts ["posts"] (Rn1 N.check_posts)) (G_between : FnV P w K mg base 2 f_between fd_between ["one", "two"] (Rn2 N.between)) (G_is_house : FnV P w K mg base 3 f_is_house fd_is_house ["posts", "house"] (Rn2 N.is_house)) :
    FnV P w K mg base 5 fa fd ["posts", "house"] (Rn2 N.space) := by
  rw [← M.space_eq]
  refine fn2 F sc_space rfl (by decide) fun cdv A outer s H E gr posts house => ?_
  have tk : Takes (defX P w K mg base ["posts", "house", "one", "two"] "space" (defScope s_space) fa cdv A outer s H E) (defW E) := takes_of rfl rfl rfl rfl
  have hp : PassesOwn (model (defX P w K mg base ["posts", "house", "one", "two"] "space" (defScope s_space) fa cdv A outer s H E).prog (defX P w K mg base ["posts", "house", "one", "two"] "space" (defScope s_space) fa cdv A outer s H E).w) (defX P w K mg base ["posts", "house", "one", "two"] "space" (defScope s_space) fa cdv A outer s H E).A (defX P w K mg base ["posts", "house", "one", "two"] "space" (defScope s_space) fa cdv A outer s H E).env (defX P w K mg base ["posts", "house", "one", "two"] "space" (defScope s_space) fa cdv A outer s H E).xe := passes_of rfl
  have hN := sc_space.nd
  unfold M.space
  refine XB.expr ?ex ?_
  case ex => exact (XV.fn1 (G_check_posts.mono (by decide)) C_check_posts gr tk (XV.var 0 rfl))
  refine XB.ifR ?tst ?_ ?_ (by intro t h ρ2 h2; cases h2)
  case tst => exact (XT.not (XT.val (XV.fn2 (G_is_house.mono (by decide)) C_is_house gr tk (XV.var 0 rfl) (XV.var 1 rfl))))
  · skip
    exact XB.ret XV.noneC
  · skip
    refine XB.asg 2 [1] (fun one => [(2, SV.sh (toD one)), (1, SV.sh (toD house))]) hN ?ex ?_
    case ex => exact (XV.fn2 (G_between.mono (by decide)) C_between gr tk (XV.idx (XV.w (XV.var 1 rfl)) XV.int) (XV.idx (XV.w (XV.var 1 rfl)) XV.int))
    intro one
    refine XB.asg 3 [0] (fun two => [(3, SV.sh (toD two)), (2, SV.sh (toD one))]) hN ?ex ?_
    case ex => exact (XV.fn2 (G_between.mono (by decide)) C_between gr tk (XV.idx (XV.w (XV.var 1 rfl)) XV.int) (XV.idx (XV.w (XV.var 1 rfl)) XV.int))
    intro two
    exact XB.ret (XV.someC (XV.callB b_abs (by rfl) bi.b_abs (by rfl) (XV.w (XV.bin o_sub (XV.bin o_mul (XV.item (k := 0) (fun a : (Int × Int) => a.1) (fun _ => ⟨_, rfl, rfl⟩) (XV.w (XV.var 1 rfl))) (XV.item (k := 1) (fun a : (Int × Int) => a.2) (fun _ => ⟨_, rfl, rfl⟩) (XV.w (XV.var 0 rfl)))) (XV.bin o_mul (XV.item (k := 1) (fun a : (Int × Int) => a.2) (fun _ => ⟨_, rfl, rfl⟩) (XV.w (XV.var 1 rfl))) (XV.item (k := 0) (fun a : (Int × Int) => a.1) (fun _ => ⟨_, rfl, rfl⟩) (XV.w (XV.var 0 rfl))))))))
def N.middle (posts : (List (Int × Int))) : Res (Option (Int × Int)) :=
  (N.check_posts posts) >>= fun τ1 => (getL posts (0 : Int)) >>= fun τ3 => (getL posts (-(1 : Int))) >>= fun τ4 => (getL posts (0 : Int)) >>= fun τ6 => (getL posts (-(1 : Int))) >>= fun τ7 => (let double : (Int × Int) := ((τ3.1 + τ4.1), (τ6.2 + τ7.2))
  (lcR (fun ξ8 => .ok true) (fun ξ8 => .ok ((double.1 - ξ8.1), (double.2 - ξ8.2))) posts) >>= fun τ9 => (sortL τ9) >>= fun turned => (if (decide (turned = posts)) then (.ok (some double)) else (.ok none)) >>= fun τ11 => .ok τ11)
def M.middle (posts : (List (Int × Int))) : Res (Option (Int × Int)) :=
  (((.ok posts) >>= fun x1 => N.check_posts x1) >>= fun _ => ((((((.ok posts) >>= fun a => (.ok (0 : Int)) >>= fun b => getL a b) >>= fun a => .ok a.1) >>= fun a => (((.ok posts) >>= fun a => ((.ok (1 : Int)) >>= fun a => Res.ok (-a)) >>= fun b => getL a b) >>= fun a => .ok a.1) >>= fun b => Res.ok (a + b)) >>= fun a => ((((.ok posts) >>= fun a => (.ok (0 : Int)) >>= fun b => getL a b) >>= fun a => .ok a.2) >>= fun a => (((.ok posts) >>= fun a => ((.ok (1 : Int)) >>= fun a => Res.ok (-a)) >>= fun b => getL a b) >>= fun a => .ok a.2) >>= fun b => Res.ok (a + b)) >>= fun b => Res.ok (a, b)) >>= fun double => ((((.ok posts) >>= fun xs => lcR (fun ξ8 => (.ok true)) (fun ξ8 => ((((.ok double) >>= fun a => .ok a.1) >>= fun a => (.ok ξ8.1) >>= fun b => Res.ok (a - b)) >>= fun a => (((.ok double) >>= fun a => .ok a.2) >>= fun a => (.ok ξ8.2) >>= fun b => Res.ok (a - b)) >>= fun b => Res.ok (a, b))) xs) >>= fun a => sortL a) >>= fun turned => (((.ok turned) >>= fun a => ((.ok posts) >>= fun a => Res.ok a) >>= fun b => .ok (decide (a = b))) >>= fun c => if c then ((.ok double) >>= fun z => .ok (some z)) else (.ok (none : (Option (Int × Int))))))))
theorem M.middle_eq : @M.middle = @N.middle := by
  funext posts
  delta M.middle
  delta N.middle
  simp only [Res.bind_assoc', Res.ok_bind2, Res.bind_ok] <;> rfl
theorem sc_middle : FnScope ["posts", "double", "turned", "x", "y"] ["posts"] (defScope s_middle) := ⟨rfl, rfl, rfl, by decide +kernel, rfl, by decide +kernel, by decide +kernel⟩
theorem ok_middle {P : Program} {w : World} {K : PySem.W.Frag} {mg : Str → Option Value} {base : Heap} (bi : Bi P K mg) {fa : Addr} {fd : FuncData} (F : FunD K "middle" "middle" (defArgs s_middle) (defBody s_middle) (defScope s_middle) [] [] fa fd) {f_check_posts : Addr} {fd_check_posts : FuncData} (C_check_posts : FnC K mg "check_posts" f_check_posts fd_check_posts ["posts"]) (G_check_posts : FnV P w K mg base 4 f_check_posts fd_check_posts ["posts"] (Rn1 N.check_posts)) :
    FnV P w K mg base 5 fa fd ["posts"] (Rn1 N.middle) := by
  rw [← M.middle_eq]
  refine fn1 F sc_middle rfl (by decide) fun cdv A outer s H E gr posts => ?_
  have tk : Takes (defX P w K mg base ["posts", "double", "turned", "x", "y"] "middle" (defScope s_middle) fa cdv A outer s H E) (defW E) := takes_of rfl rfl rfl rfl
  have hp : PassesOwn (model (defX P w K mg base ["posts", "double", "turned", "x", "y"] "middle" (defScope s_middle) fa cdv A outer s H E).prog (defX P w K mg base ["posts", "double", "turned", "x", "y"] "middle" (defScope s_middle) fa cdv A outer s H E).w) (defX P w K mg base ["posts", "double", "turned", "x", "y"] "middle" (defScope s_middle) fa cdv A outer s H E).A (defX P w K mg base ["posts", "double", "turned", "x", "y"] "middle" (defScope s_middle) fa cdv A outer s H E).env (defX P w K mg base ["posts", "double", "turned", "x", "y"] "middle" (defScope s_middle) fa cdv A outer s H E).xe := passes_of rfl
  have hN := sc_middle.nd
  unfold M.middle
  refine XB.expr ?ex ?_
  case ex => exact (XV.fn1 (G_check_posts.mono (by decide)) C_check_posts gr tk (XV.var 0 rfl))
  refine XB.asg 1 [0] (fun double => [(1, SV.sh (toD double)), (0, SV.sh (toD posts))]) hN ?ex ?_
  case ex => exact (XV.tup2 (XV.bin o_add (XV.item (k := 0) (fun a : (Int × Int) => a.1) (fun _ => ⟨_, rfl, rfl⟩) (XV.w (XV.idx (XV.w (XV.var 0 rfl)) XV.int))) (XV.item (k := 0) (fun a : (Int × Int) => a.1) (fun _ => ⟨_, rfl, rfl⟩) (XV.w (XV.idx (XV.w (XV.var 0 rfl)) (XV.neg XV.int))))) (XV.bin o_add (XV.item (k := 1) (fun a : (Int × Int) => a.2) (fun _ => ⟨_, rfl, rfl⟩) (XV.w (XV.idx (XV.w (XV.var 0 rfl)) XV.int))) (XV.item (k := 1) (fun a : (Int × Int) => a.2) (fun _ => ⟨_, rfl, rfl⟩) (XV.w (XV.idx (XV.w (XV.var 0 rfl)) (XV.neg XV.int))))))
  intro double
  refine XB.asg 2 [0, 1] (fun turned => [(2, SV.sh (toD turned)), (1, SV.sh (toD double)), (0, SV.sh (toD posts))]) hN ?ex ?_
  case ex => exact (XF.v (XF.callB (b_sorted (α := (Int × Int)) gr.r.units) (by rfl) bi.b_sorted (by rfl) (XF.w (XF.lc [("x", 3), ("y", 4)] [0, 1] [(1, SV.sh (toD double)), (0, SV.sh (toD posts))] (fun ξ8 => [(4, SV.sh (toD ξ8.2)), (3, SV.sh (toD ξ8.1)), (1, SV.sh (toD double)), (0, SV.sh (toD posts))]) rfl hN (XI.list (XV.var 1 rfl)) (by rfl) (fun ξ8 _ _ _ _ _ => (XG.tup rfl (XGs.cons (ρ1 := [(3, SV.sh (toD ξ8.1)), (1, SV.sh (toD double)), (0, SV.sh (toD posts))]) (XG.name 3 [0, 1] hN) (XGs.cons (ρ1 := [(4, SV.sh (toD ξ8.2)), (3, SV.sh (toD ξ8.1)), (1, SV.sh (toD double)), (0, SV.sh (toD posts))]) (XG.name 4 [0, 1, 2] hN) XGs.nil)))) (fun ξ8 _ _ _ _ _ => XTs.nil) (fun ξ8 _ _ _ _ _ => (XV.tup2 (XV.bin o_sub (XV.item (k := 0) (fun a : (Int × Int) => a.1) (fun _ => ⟨_, rfl, rfl⟩) (XV.w (XV.var 2 rfl))) (XV.var 1 rfl)) (XV.bin o_sub (XV.item (k := 1) (fun a : (Int × Int) => a.2) (fun _ => ⟨_, rfl, rfl⟩) (XV.w (XV.var 2 rfl))) (XV.var 0 rfl))))))))
  intro turned
  exact XB.ret (XV.ite (XT.cmp (c_eq (α := (List (Int × Int))) gr.r) (XV.w (XV.var 0 rfl)) (XF.w (XF.callT b_list (by rfl) bi.b_list (by rfl) (XV.w (XV.var 2 rfl))))) (XV.someC (XV.var 1 rfl)) XV.noneC)
def N._law_draws_l1  : ((List Int) × Int) → Int → Res ((List Int) × Int) := fun σ8 ξ9 =>
  (if (decide ((0 : Int) < σ8.2)) then ((modI σ8.2 (65536 : Int)) >>= fun τ10 => (pushL σ8.1 τ10) >>= fun draws => (fdivI σ8.2 (65536 : Int)) >>= fun rest => .ok (draws, rest)) else
  (.ok (σ8.1, σ8.2))) >>= fun σ12 => .ok (σ12.1, σ12.2)
def N._law_draws_l2 (script : Scr) : ((List Int)) → Int → Res ((List Int)) := fun σ2 ξ3 =>
  (getL script.l ξ3) >>= fun τ4 => (let rest : Int := (absI τ4)
  (powI (10 : Int) (18 : Int)) >>= fun τ6 => (if (decide (τ6 ≤ rest)) then ((rangeR 0 (60 : Int)) >>= fun τ7 => (foldR (N._law_draws_l1) τ7 (σ2, rest)) >>= fun σ13 => .ok σ13.1) else
  ((mulI rest (48271 : Int)) >>= fun τ15 => (mulI (ξ3 + (1 : Int)) (69621 : Int)) >>= fun τ16 => (modI (τ15 + τ16) (2147483647 : Int)) >>= fun stirred => (mulI stirred (16807 : Int)) >>= fun τ22 => (mulI (11 : Int) ξ3) >>= fun τ23 => (modI ((τ22 + τ23) + (5 : Int)) (2147483629 : Int)) >>= fun stirred => (modI stirred (65536 : Int)) >>= fun τ25 => (pushL σ2 τ25) >>= fun draws => (fdivI stirred (65536 : Int)) >>= fun τ26 => (modI τ26 (32768 : Int)) >>= fun τ27 => (pushL draws τ27) >>= fun draws => .ok draws)) >>= fun σ28 => .ok σ28)
def N._law_draws (script : Scr) : Res (List Int) :=
  (let draws : (List Int) := ([] : (List Int))
  (rangeR 0 (min2 (63 : Int) (lenL script.l))) >>= fun τ1 => (foldR (N._law_draws_l2 script) τ1 draws) >>= fun σ29 => .ok σ29)
def M._law_draws (script : Scr) : Res (List Int) :=
  ((.ok ([] : (List Int))) >>= fun draws => ((((.ok (63 : Int)) >>= fun a => ((.ok script) >>= fun a => Res.ok (lenL a.l)) >>= fun b => Res.ok (min2 a b)) >>= fun n => rangeR 0 n) >>= fun xs => foldR (fun σ2 ξ3 => ((((.ok script) >>= fun a => (.ok ξ3) >>= fun b => getL a.l b) >>= fun a => Res.ok (absI a)) >>= fun rest => (((.ok rest) >>= fun a => ((.ok (10 : Int)) >>= fun a => (.ok (18 : Int)) >>= fun b => powI a b) >>= fun b => .ok (decide (b ≤ a))) >>= fun b => (if b then (((.ok (60 : Int)) >>= fun n => rangeR 0 n) >>= fun xs => foldR (fun σ8 ξ9 => (((.ok σ8.2) >>= fun a => (.ok (0 : Int)) >>= fun b => .ok (decide (b < a))) >>= fun b => (if b then ((((.ok σ8.2) >>= fun a => Res.ok a) >>= fun a => (.ok (65536 : Int)) >>= fun b => modI a b) >>= fun y => pushL σ8.1 y >>= fun draws => (((.ok σ8.2) >>= fun a => (.ok (65536 : Int)) >>= fun b => fdivI a b) >>= fun rest => (.ok (draws, rest)))) else (.ok (σ8.1, σ8.2))) >>= fun σ12 => (.ok (σ12.1, σ12.2)))) xs (σ2, rest) >>= fun σ13 => (.ok σ13.1)) else ((((((.ok rest) >>= fun a => (.ok (48271 : Int)) >>= fun b => mulI a b) >>= fun a => (((.ok ξ3) >>= fun a => (.ok (1 : Int)) >>= fun b => Res.ok (a + b)) >>= fun a => (.ok (69621 : Int)) >>= fun b => mulI a b) >>= fun b => Res.ok (a + b)) >>= fun a => Res.ok a) >>= fun a => (.ok (2147483647 : Int)) >>= fun b => modI a b) >>= fun stirred => (((((((.ok stirred) >>= fun a => (.ok (16807 : Int)) >>= fun b => mulI a b) >>= fun a => ((.ok (11 : Int)) >>= fun a => (.ok ξ3) >>= fun b => mulI a b) >>= fun b => Res.ok (a + b)) >>= fun a => (.ok (5 : Int)) >>= fun b => Res.ok (a + b)) >>= fun a => Res.ok a) >>= fun a => (.ok (2147483629 : Int)) >>= fun b => modI a b) >>= fun stirred => ((((.ok stirred) >>= fun a => Res.ok a) >>= fun a => (.ok (65536 : Int)) >>= fun b => modI a b) >>= fun y => pushL σ2 y >>= fun draws => (((((.ok stirred) >>= fun a => (.ok (65536 : Int)) >>= fun b => fdivI a b) >>= fun a => Res.ok a) >>= fun a => (.ok (32768 : Int)) >>= fun b => modI a b) >>= fun y => pushL draws y >>= fun draws => (.ok draws)))))) >>= fun σ28 => (.ok σ28)))) xs draws >>= fun σ29 => (.ok σ29)))
theorem M._law_draws_eq : @M._law_draws = @N._law_draws := by
  funext script
  delta M._law_draws
  delta N._law_draws
  delta N._law_draws_l2
  delta N._law_draws_l1
  simp only [Res.bind_assoc', Res.ok_bind2, Res.bind_ok] <;> rfl
theorem sc__law_draws : FnScope ["script", "draws", "k", "rest", "turn", "stirred"] ["script"] (defScope s__law_draws) := ⟨rfl, rfl, rfl, by decide +kernel, rfl, by decide +kernel, by decide +kernel⟩
theorem ok__law_draws {P : Program} {w : World} {K : PySem.W.Frag} {mg : Str → Option Value} {base : Heap} (bi : Bi P K mg) {fa : Addr} {fd : FuncData} (F : FunD K "_law_draws" "_law_draws" (defArgs s__law_draws) (defBody s__law_draws) (defScope s__law_draws) [] [] fa fd)   :
    FnV P w K mg base 2 fa fd ["script"] (Rn1 N._law_draws) := by
  rw [← M._law_draws_eq]
  refine fn1 F sc__law_draws rfl (by decide) fun cdv A outer s H E gr script => ?_
  have tk : Takes (defX P w K mg base ["script", "draws", "k", "rest", "turn", "stirred"] "_law_draws" (defScope s__law_draws) fa cdv A outer s H E) (defW E) := takes_of rfl rfl rfl rfl
  have hp : PassesOwn (model (defX P w K mg base ["script", "draws", "k", "rest", "turn", "stirred"] "_law_draws" (defScope s__law_draws) fa cdv A outer s H E).prog (defX P w K mg base ["script", "draws", "k", "rest", "turn", "stirred"] "_law_draws" (defScope s__law_draws) fa cdv A outer s H E).w) (defX P w K mg base ["script", "draws", "k", "rest", "turn", "stirred"] "_law_draws" (defScope s__law_draws) fa cdv A outer s H E).A (defX P w K mg base ["script", "draws", "k", "rest", "turn", "stirred"] "_law_draws" (defScope s__law_draws) fa cdv A outer s H E).env (defX P w K mg base ["script", "draws", "k", "rest", "turn", "stirred"] "_law_draws" (defScope s__law_draws) fa cdv A outer s H E).xe := passes_of rfl
  have hN := sc__law_draws.nd
  unfold M._law_draws
  refine XB.asgO 1 [0] (fun draws => [(1, SV.ow (toD draws)), (0, SV.sh (toD script))]) hN ?ex ?_
  case ex => exact XF.lst0
  intro draws
  refine XB.forS (fun (σ2 : (List Int)) => [(1, SV.ow (toD σ2)), (0, SV.sh (toD script))]) (fun (σ2 : (List Int)) (ξ3 : Int) => [(2, SV.sh (toD ξ3)), (1, SV.ow (toD σ2)), (0, SV.sh (toD script))]) hp rfl (XI.range1 bi.b_range (XV.min2 bi.b_min XV.int (XV.callB b_lenScr (by rfl) bi.b_len (by rfl) (XV.w (XV.var 1 rfl))))) (fun σ2 ξ3 => (XG.name 2 [0, 1] hN)) ?_ (wk [0, 1]) ?_
  · intro σ2 ξ3
    refine XB.asg 3 [0, 1, 2] (fun rest => [(3, SV.sh (toD rest)), (2, SV.sh (toD ξ3)), (1, SV.ow (toD σ2)), (0, SV.sh (toD script))]) hN ?ex ?_
    case ex => exact (XV.callB b_abs (by rfl) bi.b_abs (by rfl) (XV.w (XV.idxScr (XV.w (XV.var 2 rfl)) (XV.var 0 rfl))))
    intro rest
    refine XB.ifN (fun (σ28 : (List Int)) => [(1, SV.ow (toD σ28)), (0, SV.sh (toD script))]) ?tst ?_ ?_ ?_
    case tst => exact (XT.cmp c_ge (XV.w (XV.var 0 rfl)) (XV.w (XV.bin o_pow XV.int XV.int)))
    · skip
      refine XB.forS (fun (σ8 : (List Int) × Int) => [(1, SV.ow (toD σ8.1)), (3, SV.sh (toD σ8.2)), (0, SV.sh (toD script))]) (fun (σ8 : (List Int) × Int) (ξ9 : Int) => [(4, SV.sh (toD ξ9)), (1, SV.ow (toD σ8.1)), (3, SV.sh (toD σ8.2)), (0, SV.sh (toD script))]) hp rfl (XI.range1 bi.b_range XV.int) (fun σ8 ξ9 => (XG.name 4 [0, 1, 2] hN)) ?_ (wk [2, 0, 3]) ?_
      · intro σ8 ξ9
        refine XB.ifN (fun (σ12 : (List Int) × Int) => [(1, SV.ow (toD σ12.1)), (3, SV.sh (toD σ12.2)), (0, SV.sh (toD script))]) ?tst ?_ ?_ ?_
        case tst => exact (XT.cmp c_gt (XV.w (XV.var 2 rfl)) (XV.w XV.int))
        · skip
          refine XB.append 1 1 [2, 3] (fun draws => [(1, SV.ow (toD draws)), (3, SV.sh (toD σ8.2)), (0, SV.sh (toD script))]) rfl ?ex ?_
          case ex => exact (XV.bin o_mod (XV.callT b_int (by rfl) bi.b_int (by rfl) (XV.w (XV.var 2 rfl))) XV.int)
          intro draws
          refine XB.asg 3 [0, 2] (fun rest => [(3, SV.sh (toD rest)), (1, SV.ow (toD draws)), (0, SV.sh (toD script))]) hN ?ex ?_
          case ex => exact (XV.bin o_fdiv (XV.var 1 rfl) XV.int)
          intro rest
          exact XB.nilT (t := (draws, rest)) rfl (wk [1, 0, 2])
        · skip
          exact XB.nilT (t := (σ8.1, σ8.2)) rfl (wk [1, 2, 3])
        intro σ12
        exact XB.nilT (t := (σ12.1, σ12.2)) rfl (wk [0, 1, 2])
      intro σ13
      exact XB.nilT (t := σ13.1) rfl (wk [0, 2])
    · skip
      refine XB.asg 5 [1, 2, 3] (fun stirred => [(5, SV.sh (toD stirred)), (2, SV.sh (toD ξ3)), (1, SV.ow (toD σ2)), (0, SV.sh (toD script))]) hN ?ex ?_
      case ex => exact (XV.bin o_mod (XV.callT b_int (by rfl) bi.b_int (by rfl) (XV.w (XV.bin o_add (XV.bin o_mul (XV.var 0 rfl) XV.int) (XV.bin o_mul (XV.bin o_add (XV.var 1 rfl) XV.int) XV.int)))) XV.int)
      intro stirred
      refine XB.asg 5 [2, 3] (fun stirred => [(5, SV.sh (toD stirred)), (1, SV.ow (toD σ2)), (0, SV.sh (toD script))]) hN ?ex ?_
      case ex => exact (XV.bin o_mod (XV.callT b_int (by rfl) bi.b_int (by rfl) (XV.w (XV.bin o_add (XV.bin o_add (XV.bin o_mul (XV.var 0 rfl) XV.int) (XV.bin o_mul XV.int (XV.var 1 rfl))) XV.int))) XV.int)
      intro stirred
      refine XB.append 1 1 [0, 2] (fun draws => [(1, SV.ow (toD draws)), (5, SV.sh (toD stirred)), (0, SV.sh (toD script))]) rfl ?ex ?_
      case ex => exact (XV.bin o_mod (XV.callT b_int (by rfl) bi.b_int (by rfl) (XV.w (XV.var 0 rfl))) XV.int)
      intro draws
      refine XB.append 0 1 [2] (fun draws => [(1, SV.ow (toD draws)), (0, SV.sh (toD script))]) rfl ?ex ?_
      case ex => exact (XV.bin o_mod (XV.callT b_int (by rfl) bi.b_int (by rfl) (XV.w (XV.bin o_fdiv (XV.var 1 rfl) XV.int))) XV.int)
      intro draws
      exact XB.nilT (t := draws) rfl (wk [0, 1])
    intro σ28
    exact XB.nilT (t := σ28) rfl (wk [0, 1])
  intro σ29
  refine XB.freeze (x := σ29) 0 1 [1] [(1, SV.sh (toD σ29)), (0, SV.sh (toD script))] rfl ?_
  exact XB.ret (XV.var 0 rfl)
def N._law_mix (draws : (List Int)) (k' : Int) (many : Int) : Res Int :=
  (let cell : Int := (0 : Int)
  (if (decide ((0 : Int) < (lenL draws))) then ((modI k' (lenL draws)) >>= fun τ2 => (getL draws τ2) >>= fun cell => .ok cell) else
  (.ok cell)) >>= fun σ3 => (if (decide (k' < (lenL draws))) then ((modI σ3 many) >>= fun τ4 => .ok τ4) else
  ((mulI σ3 (7919 : Int)) >>= fun τ6 => (mulI k' (104729 : Int)) >>= fun τ7 => (fdivI (τ6 + τ7) (3 : Int)) >>= fun τ8 => (modI τ8 many) >>= fun τ9 => .ok τ9)))
def M._law_mix (draws : (List Int)) (k' : Int) (many : Int) : Res Int :=
  ((.ok (0 : Int)) >>= fun cell => ((((.ok draws) >>= fun a => Res.ok (lenL a)) >>= fun a => (.ok (0 : Int)) >>= fun b => .ok (decide (b < a))) >>= fun b => (if b then (((.ok draws) >>= fun a => (((.ok k') >>= fun a => Res.ok a) >>= fun a => ((.ok draws) >>= fun a => Res.ok (lenL a)) >>= fun b => modI a b) >>= fun b => getL a b) >>= fun cell => (.ok cell)) else (.ok cell)) >>= fun σ3 => (((.ok k') >>= fun a => ((.ok draws) >>= fun a => Res.ok (lenL a)) >>= fun b => .ok (decide (a < b))) >>= fun b => if b then (((.ok σ3) >>= fun a => Res.ok a) >>= fun a => (.ok many) >>= fun b => modI a b) else (((((((.ok σ3) >>= fun a => (.ok (7919 : Int)) >>= fun b => mulI a b) >>= fun a => ((.ok k') >>= fun a => (.ok (104729 : Int)) >>= fun b => mulI a b) >>= fun b => Res.ok (a + b)) >>= fun a => Res.ok a) >>= fun a => (.ok (3 : Int)) >>= fun b => fdivI a b) >>= fun a => Res.ok a) >>= fun a => (.ok many) >>= fun b => modI a b))))
theorem M._law_mix_eq : @M._law_mix = @N._law_mix := by
  funext draws k' many
  delta M._law_mix
  delta N._law_mix
  simp only [Res.bind_assoc', Res.ok_bind2, Res.bind_ok] <;> rfl
theorem sc__law_mix : FnScope ["draws", "k", "many", "cell"] ["draws", "k", "many"] (defScope s__law_mix) := ⟨rfl, rfl, rfl, by decide +kernel, rfl, by decide +kernel, by decide +kernel⟩
theorem ok__law_mix {P : Program} {w : World} {K : PySem.W.Frag} {mg : Str → Option Value} {base : Heap} (bi : Bi P K mg) {fa : Addr} {fd : FuncData} (F : FunD K "_law_mix" "_law_mix" (defArgs s__law_mix) (defBody s__law_mix) (defScope s__law_mix) [] [] fa fd)   :
    FnV P w K mg base 2 fa fd ["draws", "k", "many"] (Rn3 N._law_mix) := by
  rw [← M._law_mix_eq]
  refine fn3 F sc__law_mix rfl (by decide) fun cdv A outer s H E gr draws k' many => ?_
  have tk : Takes (defX P w K mg base ["draws", "k", "many", "cell"] "_law_mix" (defScope s__law_mix) fa cdv A outer s H E) (defW E) := takes_of rfl rfl rfl rfl
  have hp : PassesOwn (model (defX P w K mg base ["draws", "k", "many", "cell"] "_law_mix" (defScope s__law_mix) fa cdv A outer s H E).prog (defX P w K mg base ["draws", "k", "many", "cell"] "_law_mix" (defScope s__law_mix) fa cdv A outer s H E).w) (defX P w K mg base ["draws", "k", "many", "cell"] "_law_mix" (defScope s__law_mix) fa cdv A outer s H E).A (defX P w K mg base ["draws", "k", "many", "cell"] "_law_mix" (defScope s__law_mix) fa cdv A outer s H E).env (defX P w K mg base ["draws", "k", "many", "cell"] "_law_mix" (defScope s__law_mix) fa cdv A outer s H E).xe := passes_of rfl
  have hN := sc__law_mix.nd
  unfold M._law_mix
  refine XB.asg 3 [0, 1, 2] (fun cell => [(3, SV.sh (toD cell)), (0, SV.sh (toD draws)), (1, SV.sh (toD k')), (2, SV.sh (toD many))]) hN ?ex ?_
  case ex => exact XV.int
  intro cell
  refine XB.ifN (fun (σ3 : Int) => [(3, SV.sh (toD σ3)), (0, SV.sh (toD draws)), (1, SV.sh (toD k')), (2, SV.sh (toD many))]) ?tst ?_ ?_ ?_
  case tst => exact (XT.cmp c_gt (XV.w (XV.callB b_len (by rfl) bi.b_len (by rfl) (XV.w (XV.var 1 rfl)))) (XV.w XV.int))
  · skip
    refine XB.asg 3 [1, 2, 3] (fun cell => [(3, SV.sh (toD cell)), (0, SV.sh (toD draws)), (1, SV.sh (toD k')), (2, SV.sh (toD many))]) hN ?ex ?_
    case ex => exact (XV.idx (XV.w (XV.var 1 rfl)) (XV.bin o_mod (XV.callT b_int (by rfl) bi.b_int (by rfl) (XV.w (XV.var 2 rfl))) (XV.callB b_len (by rfl) bi.b_len (by rfl) (XV.w (XV.var 1 rfl)))))
    intro cell
    exact XB.nilT (t := cell) rfl (wk [0, 1, 2, 3])
  · skip
    exact XB.nilT (t := cell) rfl (wk [0, 1, 2, 3])
  intro σ3
  refine XB.ifR ?tst ?_ ?_ (by intro t h ρ2 h2; cases h2)
  case tst => exact (XT.cmp c_lt (XV.w (XV.var 2 rfl)) (XV.w (XV.callB b_len (by rfl) bi.b_len (by rfl) (XV.w (XV.var 1 rfl)))))
  · skip
    exact XB.ret (XV.bin o_mod (XV.callT b_int (by rfl) bi.b_int (by rfl) (XV.w (XV.var 0 rfl))) (XV.var 3 rfl))
  · skip
    exact XB.ret (XV.bin o_mod (XV.callT b_int (by rfl) bi.b_int (by rfl) (XV.w (XV.bin o_fdiv (XV.callT b_int (by rfl) bi.b_int (by rfl) (XV.w (XV.bin o_add (XV.bin o_mul (XV.var 0 rfl) XV.int) (XV.bin o_mul (XV.var 2 rfl) XV.int)))) XV.int))) (XV.var 3 rfl))
def N._law_posts_l1 (draws : (List Int)) (first : Int) (wide : Int) : ((List (Int × Int))) → Int → Res ((List (Int × Int))) := fun σ5 ξ6 =>
  (mulI (8 : Int) ξ6) >>= fun τ7 => (N._law_mix draws ((first + (2 : Int)) + τ7) wide) >>= fun a' => (mulI (8 : Int) ξ6) >>= fun τ9 => (N._law_mix draws ((first + (3 : Int)) + τ9) wide) >>= fun b' => (mulI (8 : Int) ξ6) >>= fun τ11 => (N._law_mix draws ((first + (4 : Int)) + τ11) (4 : Int)) >>= fun dx => (mulI (8 : Int) ξ6) >>= fun τ13 => (N._law_mix draws ((first + (5 : Int)) + τ13) (4 : Int)) >>= fun dy => (mulI (8 : Int) ξ6) >>= fun τ15 => (N._law_mix draws ((first + (6 : Int)) + τ15) (2 : Int)) >>= fun τ16 => (let by_ : Int := ((1 : Int) + τ16)
  (mulI by_ dy) >>= fun τ21 => (mulI by_ dx) >>= fun τ22 => (mulI by_ dy) >>= fun τ23 => (mulI by_ dx) >>= fun τ24 => (let row : (List (Int × Int)) := [(a', b'), ((a' + dx), (b' + dy)), ((a' - τ21), (b' + τ22)), (((a' + dx) - τ23), ((b' + dy) + τ24))]
  (mulI (8 : Int) ξ6) >>= fun τ27 => (N._law_mix draws ((first + (7 : Int)) + τ27) (3 : Int)) >>= fun τ28 => (if (decide (τ28 = (0 : Int))) then ((mulI (2 : Int) dx) >>= fun τ33 => (mulI (2 : Int) dy) >>= fun τ34 => (mulI (3 : Int) dx) >>= fun τ35 => (mulI (3 : Int) dy) >>= fun τ36 => (let row : (List (Int × Int)) := [(a', b'), ((a' + dx), (b' + dy)), ((a' + τ33), (b' + τ34)), ((a' + τ35), (b' + τ36))]
  .ok row)) else
  (.ok row)) >>= fun σ37 => (lcR (fun ξ38 => (if decide ((0 : Int) ≤ ξ38.1) then (.ok (decide (ξ38.1 ≤ (60 : Int)))) else .ok false) >>= fun τ39 => (if τ39 then ((if decide ((0 : Int) ≤ ξ38.2) then (.ok (decide (ξ38.2 ≤ (60 : Int)))) else .ok false) >>= fun τ40 => .ok τ40) else .ok false) >>= fun τ41 => .ok τ41) (fun ξ38 => .ok (ξ38.1, ξ38.2)) σ37) >>= fun τ42 => (catL σ5 τ42) >>= fun found => .ok found))
def N._law_posts (draws : (List Int)) (first : Int) : Res (List (Int × Int)) :=
  (let found : (List (Int × Int)) := ([] : (List (Int × Int)))
  (N._law_mix draws first (3 : Int)) >>= fun τ2 => (getL [(4 : Int), (7 : Int), (61 : Int)] τ2) >>= fun wide => (N._law_mix draws (first + (1 : Int)) (4 : Int)) >>= fun τ3 => (rangeR 0 ((1 : Int) + τ3)) >>= fun τ4 => (foldR (N._law_posts_l1 draws first wide) τ4 found) >>= fun σ44 => (setT σ44) >>= fun τ45 => (sortT τ45) >>= fun τ46 => (let found : (List (Int × Int)) := (cutL τ46 none (some (12 : Int)))
  (if found.isEmpty then (.ok [((0 : Int), (0 : Int))]) else .ok found) >>= fun τ47 => .ok τ47))
def M._law_posts (draws : (List Int)) (first : Int) : Res (List (Int × Int)) :=
  ((.ok ([] : (List (Int × Int)))) >>= fun found => ((((.ok (4 : Int)) >>= fun a => (.ok (7 : Int)) >>= fun b => (.ok (61 : Int)) >>= fun c => Res.ok [a, b, c]) >>= fun a => ((.ok draws) >>= fun x1 => (.ok first) >>= fun x2 => (.ok (3 : Int)) >>= fun x3 => N._law_mix x1 x2 x3) >>= fun b => getL a b) >>= fun wide => ((((.ok (1 : Int)) >>= fun a => ((.ok draws) >>= fun x1 => ((.ok first) >>= fun a => (.ok (1 : Int)) >>= fun b => Res.ok (a + b)) >>= fun x2 => (.ok (4 : Int)) >>= fun x3 => N._law_mix x1 x2 x3) >>= fun b => Res.ok (a + b)) >>= fun n => rangeR 0 n) >>= fun xs => foldR (fun σ5 ξ6 => (((.ok draws) >>= fun x1 => (((.ok first) >>= fun a => (.ok (2 : Int)) >>= fun b => Res.ok (a + b)) >>= fun a => ((.ok (8 : Int)) >>= fun a => (.ok ξ6) >>= fun b => mulI a b) >>= fun b => Res.ok (a + b)) >>= fun x2 => (.ok wide) >>= fun x3 => N._law_mix x1 x2 x3) >>= fun a' => (((.ok draws) >>= fun x1 => (((.ok first) >>= fun a => (.ok (3 : Int)) >>= fun b => Res.ok (a + b)) >>= fun a => ((.ok (8 : Int)) >>= fun a => (.ok ξ6) >>= fun b => mulI a b) >>= fun b => Res.ok (a + b)) >>= fun x2 => (.ok wide) >>= fun x3 => N._law_mix x1 x2 x3) >>= fun b' => (((.ok draws) >>= fun x1 => (((.ok first) >>= fun a => (.ok (4 : Int)) >>= fun b => Res.ok (a + b)) >>= fun a => ((.ok (8 : Int)) >>= fun a => (.ok ξ6) >>= fun b => mulI a b) >>= fun b => Res.ok (a + b)) >>= fun x2 => (.ok (4 : Int)) >>= fun x3 => N._law_mix x1 x2 x3) >>= fun dx => (((.ok draws) >>= fun x1 => (((.ok first) >>= fun a => (.ok (5 : Int)) >>= fun b => Res.ok (a + b)) >>= fun a => ((.ok (8 : Int)) >>= fun a => (.ok ξ6) >>= fun b => mulI a b) >>= fun b => Res.ok (a + b)) >>= fun x2 => (.ok (4 : Int)) >>= fun x3 => N._law_mix x1 x2 x3) >>= fun dy => (((.ok (1 : Int)) >>= fun a => ((.ok draws) >>= fun x1 => (((.ok first) >>= fun a => (.ok (6 : Int)) >>= fun b => Res.ok (a + b)) >>= fun a => ((.ok (8 : Int)) >>= fun a => (.ok ξ6) >>= fun b => mulI a b) >>= fun b => Res.ok (a + b)) >>= fun x2 => (.ok (2 : Int)) >>= fun x3 => N._law_mix x1 x2 x3) >>= fun b => Res.ok (a + b)) >>= fun by_ => ((((.ok a') >>= fun a => (.ok b') >>= fun b => Res.ok (a, b)) >>= fun x => ((((.ok a') >>= fun a => (.ok dx) >>= fun b => Res.ok (a + b)) >>= fun a => ((.ok b') >>= fun a => (.ok dy) >>= fun b => Res.ok (a + b)) >>= fun b => Res.ok (a, b)) >>= fun x => ((((.ok a') >>= fun a => ((.ok by_) >>= fun a => (.ok dy) >>= fun b => mulI a b) >>= fun b => Res.ok (a - b)) >>= fun a => ((.ok b') >>= fun a => ((.ok by_) >>= fun a => (.ok dx) >>= fun b => mulI a b) >>= fun b => Res.ok (a + b)) >>= fun b => Res.ok (a, b)) >>= fun x => (((((.ok a') >>= fun a => (.ok dx) >>= fun b => Res.ok (a + b)) >>= fun a => ((.ok by_) >>= fun a => (.ok dy) >>= fun b => mulI a b) >>= fun b => Res.ok (a - b)) >>= fun a => (((.ok b') >>= fun a => (.ok dy) >>= fun b => Res.ok (a + b)) >>= fun a => ((.ok by_) >>= fun a => (.ok dx) >>= fun b => mulI a b) >>= fun b => Res.ok (a + b)) >>= fun b => Res.ok (a, b)) >>= fun x => (.ok []) >>= fun xs => .ok (x :: xs)) >>= fun xs => .ok (x :: xs)) >>= fun xs => .ok (x :: xs)) >>= fun xs => .ok (x :: xs)) >>= fun row => ((((.ok draws) >>= fun x1 => (((.ok first) >>= fun a => (.ok (7 : Int)) >>= fun b => Res.ok (a + b)) >>= fun a => ((.ok (8 : Int)) >>= fun a => (.ok ξ6) >>= fun b => mulI a b) >>= fun b => Res.ok (a + b)) >>= fun x2 => (.ok (3 : Int)) >>= fun x3 => N._law_mix x1 x2 x3) >>= fun a => (.ok (0 : Int)) >>= fun b => .ok (decide (a = b))) >>= fun b => (if b then ((((.ok a') >>= fun a => (.ok b') >>= fun b => Res.ok (a, b)) >>= fun x => ((((.ok a') >>= fun a => (.ok dx) >>= fun b => Res.ok (a + b)) >>= fun a => ((.ok b') >>= fun a => (.ok dy) >>= fun b => Res.ok (a + b)) >>= fun b => Res.ok (a, b)) >>= fun x => ((((.ok a') >>= fun a => ((.ok (2 : Int)) >>= fun a => (.ok dx) >>= fun b => mulI a b) >>= fun b => Res.ok (a + b)) >>= fun a => ((.ok b') >>= fun a => ((.ok (2 : Int)) >>= fun a => (.ok dy) >>= fun b => mulI a b) >>= fun b => Res.ok (a + b)) >>= fun b => Res.ok (a, b)) >>= fun x => ((((.ok a') >>= fun a => ((.ok (3 : Int)) >>= fun a => (.ok dx) >>= fun b => mulI a b) >>= fun b => Res.ok (a + b)) >>= fun a => ((.ok b') >>= fun a => ((.ok (3 : Int)) >>= fun a => (.ok dy) >>= fun b => mulI a b) >>= fun b => Res.ok (a + b)) >>= fun b => Res.ok (a, b)) >>= fun x => (.ok []) >>= fun xs => .ok (x :: xs)) >>= fun xs => .ok (x :: xs)) >>= fun xs => .ok (x :: xs)) >>= fun xs => .ok (x :: xs)) >>= fun row => (.ok row)) else (.ok row)) >>= fun σ37 => (((.ok σ5) >>= fun a => ((.ok σ37) >>= fun xs => lcR (fun ξ38 => (((.ok (0 : Int)) >>= fun a => (.ok ξ38.1) >>= fun b => if decide (a ≤ b) then (.ok (60 : Int)) >>= fun c => .ok (decide (b ≤ c)) else .ok false) >>= fun c => if c then ((.ok (0 : Int)) >>= fun a => (.ok ξ38.2) >>= fun b => if decide (a ≤ b) then (.ok (60 : Int)) >>= fun c => .ok (decide (b ≤ c)) else .ok false) else .ok false)) (fun ξ38 => ((.ok ξ38.1) >>= fun a => (.ok ξ38.2) >>= fun b => Res.ok (a, b))) xs) >>= fun b => catL a b) >>= fun found => (.ok found)))))))))) xs found >>= fun σ44 => (((((.ok σ44) >>= fun a => setT a) >>= fun a => sortT a) >>= fun a => (.ok none) >>= fun b => ((.ok (12 : Int)) >>= fun z => .ok (some z)) >>= fun c => Res.ok (cutL a b c)) >>= fun found => ((.ok found) >>= fun c => if c.isEmpty then (((.ok (0 : Int)) >>= fun a => (.ok (0 : Int)) >>= fun b => Res.ok (a, b)) >>= fun a => Res.ok [a]) else .ok c)))))
theorem M._law_posts_eq : @M._law_posts = @N._law_posts := by
  funext draws first
  delta M._law_posts
  delta N._law_posts
  delta N._law_posts_l1
  simp only [Res.bind_assoc', Res.ok_bind2, Res.bind_ok] <;> rfl
theorem sc__law_posts : FnScope ["draws", "first", "found", "wide", "t", "a", "b", "dx", "dy", "by", "row", "x", "y"] ["draws", "first"] (defScope s__law_posts) := ⟨rfl, rfl, rfl, by decide +kernel, rfl, by decide +kernel, by decide +kernel⟩
theorem ok__law_posts {P : Program} {w : World} {K : PySem.W.Frag} {mg : Str → Option Value} {base : Heap} (bi : Bi P K mg) {fa : Addr} {fd : FuncData} (F : FunD K "_law_posts" "_law_posts" (defArgs s__law_posts) (defBody s__law_posts) (defScope s__law_posts) [] [] fa fd) {f__law_mix : Addr} {fd__law_mix : FuncData} (C__law_mix : FnC K mg "_law_mix" f__law_mix fd__law_mix ["draws", "k", "many"]) (G__law_mix : FnV P w K mg base 2 f__law_mix fd__law_mix ["draws", "k", "many"] (Rn3 N._law_mix)) :
    FnV P w K mg base 3 fa fd ["draws", "first"] (Rn2 N._law_posts) := by
  rw [← M._law_posts_eq]
  refine fn2 F sc__law_posts rfl (by decide) fun cdv A outer s H E gr draws first => ?_
  have tk : Takes (defX P w K mg base ["draws", "first", "found", "wide", "t", "a", "b", "dx", "dy", "by", "row", "x", "y"] "_law_posts" (defScope s__law_posts) fa cdv A outer s H E) (defW E) := takes_of rfl rfl rfl rfl
  have hp : PassesOwn (model (defX P w K mg base ["draws", "first", "found", "wide", "t", "a", "b", "dx", "dy", "by", "row", "x", "y"] "_law_posts" (defScope s__law_posts) fa cdv A outer s H E).prog (defX P w K mg base ["draws", "first", "found", "wide", "t", "a", "b", "dx", "dy", "by", "row", "x", "y"] "_law_posts" (defScope s__law_posts) fa cdv A outer s H E).w) (defX P w K mg base ["draws", "first", "found", "wide", "t", "a", "b", "dx", "dy", "by", "row", "x", "y"] "_law_posts" (defScope s__law_posts) fa cdv A outer s H E).A (defX P w K mg base ["draws", "first", "found", "wide", "t", "a", "b", "dx", "dy", "by", "row", "x", "y"] "_law_posts" (defScope s__law_posts) fa cdv A outer s H E).env (defX P w K mg base ["draws", "first", "found", "wide", "t", "a", "b", "dx", "dy", "by", "row", "x", "y"] "_law_posts" (defScope s__law_posts) fa cdv A outer s H E).xe := passes_of rfl
  have hN := sc__law_posts.nd
  unfold M._law_posts
  refine XB.asg 2 [0, 1] (fun found => [(2, SV.sh (toD found)), (0, SV.sh (toD draws)), (1, SV.sh (toD first))]) hN ?ex ?_
  case ex => exact (XF.v XF.lst0)
  intro found
  refine XB.asg 3 [0, 1, 2] (fun wide => [(3, SV.sh (toD wide)), (2, SV.sh (toD found)), (0, SV.sh (toD draws)), (1, SV.sh (toD first))]) hN ?ex ?_
  case ex => exact (XV.idx (XF.w (XF.lst3 XV.int XV.int XV.int)) (XV.fn3 (G__law_mix.mono (by decide)) C__law_mix gr tk (XV.var 1 rfl) (XV.var 2 rfl) XV.int))
  intro wide
  refine XB.forS (fun (σ5 : (List (Int × Int))) => [(2, SV.sh (toD σ5)), (3, SV.sh (toD wide)), (0, SV.sh (toD draws)), (1, SV.sh (toD first))]) (fun (σ5 : (List (Int × Int))) (ξ6 : Int) => [(4, SV.sh (toD ξ6)), (2, SV.sh (toD σ5)), (3, SV.sh (toD wide)), (0, SV.sh (toD draws)), (1, SV.sh (toD first))]) hp rfl (XI.range1 bi.b_range (XV.bin o_add XV.int (XV.fn3 (G__law_mix.mono (by decide)) C__law_mix gr tk (XV.var 2 rfl) (XV.bin o_add (XV.var 3 rfl) XV.int) XV.int))) (fun σ5 ξ6 => (XG.name 4 [0, 1, 2, 3] hN)) ?_ (wk [1, 0, 2, 3]) ?_
  · intro σ5 ξ6
    refine XB.asg 5 [0, 1, 2, 3, 4] (fun a' => [(5, SV.sh (toD a')), (4, SV.sh (toD ξ6)), (2, SV.sh (toD σ5)), (3, SV.sh (toD wide)), (0, SV.sh (toD draws)), (1, SV.sh (toD first))]) hN ?ex ?_
    case ex => exact (XV.fn3 (G__law_mix.mono (by decide)) C__law_mix gr tk (XV.var 3 rfl) (XV.bin o_add (XV.bin o_add (XV.var 4 rfl) XV.int) (XV.bin o_mul XV.int (XV.var 0 rfl))) (XV.var 2 rfl))
    intro a'
    refine XB.asg 6 [0, 1, 2, 3, 4, 5] (fun b' => [(6, SV.sh (toD b')), (5, SV.sh (toD a')), (4, SV.sh (toD ξ6)), (2, SV.sh (toD σ5)), (3, SV.sh (toD wide)), (0, SV.sh (toD draws)), (1, SV.sh (toD first))]) hN ?ex ?_
    case ex => exact (XV.fn3 (G__law_mix.mono (by decide)) C__law_mix gr tk (XV.var 4 rfl) (XV.bin o_add (XV.bin o_add (XV.var 5 rfl) XV.int) (XV.bin o_mul XV.int (XV.var 1 rfl))) (XV.var 3 rfl))
    intro b'
    refine XB.asg 7 [0, 1, 2, 3, 4, 5, 6] (fun dx => [(7, SV.sh (toD dx)), (6, SV.sh (toD b')), (5, SV.sh (toD a')), (4, SV.sh (toD ξ6)), (2, SV.sh (toD σ5)), (3, SV.sh (toD wide)), (0, SV.sh (toD draws)), (1, SV.sh (toD first))]) hN ?ex ?_
    case ex => exact (XV.fn3 (G__law_mix.mono (by decide)) C__law_mix gr tk (XV.var 5 rfl) (XV.bin o_add (XV.bin o_add (XV.var 6 rfl) XV.int) (XV.bin o_mul XV.int (XV.var 2 rfl))) XV.int)
    intro dx
    refine XB.asg 8 [0, 1, 2, 3, 4, 5, 6, 7] (fun dy => [(8, SV.sh (toD dy)), (7, SV.sh (toD dx)), (6, SV.sh (toD b')), (5, SV.sh (toD a')), (4, SV.sh (toD ξ6)), (2, SV.sh (toD σ5)), (3, SV.sh (toD wide)), (0, SV.sh (toD draws)), (1, SV.sh (toD first))]) hN ?ex ?_
    case ex => exact (XV.fn3 (G__law_mix.mono (by decide)) C__law_mix gr tk (XV.var 6 rfl) (XV.bin o_add (XV.bin o_add (XV.var 7 rfl) XV.int) (XV.bin o_mul XV.int (XV.var 3 rfl))) XV.int)
    intro dy
    refine XB.asg 9 [0, 1, 2, 3, 4, 5, 6, 7, 8] (fun by_ => [(9, SV.sh (toD by_)), (8, SV.sh (toD dy)), (7, SV.sh (toD dx)), (6, SV.sh (toD b')), (5, SV.sh (toD a')), (4, SV.sh (toD ξ6)), (2, SV.sh (toD σ5)), (3, SV.sh (toD wide)), (0, SV.sh (toD draws)), (1, SV.sh (toD first))]) hN ?ex ?_
    case ex => exact (XV.bin o_add XV.int (XV.fn3 (G__law_mix.mono (by decide)) C__law_mix gr tk (XV.var 7 rfl) (XV.bin o_add (XV.bin o_add (XV.var 8 rfl) XV.int) (XV.bin o_mul XV.int (XV.var 4 rfl))) XV.int))
    intro by_
    refine XB.asg 10 [1, 2, 3, 4, 5, 6, 7, 8, 9] (fun row => [(10, SV.sh (toD row)), (8, SV.sh (toD dy)), (7, SV.sh (toD dx)), (6, SV.sh (toD b')), (5, SV.sh (toD a')), (4, SV.sh (toD ξ6)), (2, SV.sh (toD σ5)), (3, SV.sh (toD wide)), (0, SV.sh (toD draws)), (1, SV.sh (toD first))]) hN ?ex ?_
    case ex => exact (XF.v (XF.lstN (XL.cons (XV.tup2 (XV.var 4 rfl) (XV.var 3 rfl)) (XL.cons (XV.tup2 (XV.bin o_add (XV.var 4 rfl) (XV.var 2 rfl)) (XV.bin o_add (XV.var 3 rfl) (XV.var 1 rfl))) (XL.cons (XV.tup2 (XV.bin o_sub (XV.var 4 rfl) (XV.bin o_mul (XV.var 0 rfl) (XV.var 1 rfl))) (XV.bin o_add (XV.var 3 rfl) (XV.bin o_mul (XV.var 0 rfl) (XV.var 2 rfl)))) (XL.cons (XV.tup2 (XV.bin o_sub (XV.bin o_add (XV.var 4 rfl) (XV.var 2 rfl)) (XV.bin o_mul (XV.var 0 rfl) (XV.var 1 rfl))) (XV.bin o_add (XV.bin o_add (XV.var 3 rfl) (XV.var 1 rfl)) (XV.bin o_mul (XV.var 0 rfl) (XV.var 2 rfl)))) XL.nil)))) (ll_fin (ll_cons (ll_cons (ll_cons (ll_cons ll_nil)))))))
    intro row
    refine XB.ifN (fun (σ37 : (List (Int × Int))) => [(10, SV.sh (toD σ37)), (2, SV.sh (toD σ5)), (3, SV.sh (toD wide)), (0, SV.sh (toD draws)), (1, SV.sh (toD first))]) ?tst ?_ ?_ ?_
    case tst => exact (XT.cmp (c_eq (α := Int) gr.r) (XV.w (XV.fn3 (G__law_mix.mono (by decide)) C__law_mix gr tk (XV.var 8 rfl) (XV.bin o_add (XV.bin o_add (XV.var 9 rfl) XV.int) (XV.bin o_mul XV.int (XV.var 5 rfl))) XV.int)) (XV.w XV.int))
    · skip
      refine XB.asg 10 [6, 7, 8, 9] (fun row => [(10, SV.sh (toD row)), (2, SV.sh (toD σ5)), (3, SV.sh (toD wide)), (0, SV.sh (toD draws)), (1, SV.sh (toD first))]) hN ?ex ?_
      case ex => exact (XF.v (XF.lstN (XL.cons (XV.tup2 (XV.var 4 rfl) (XV.var 3 rfl)) (XL.cons (XV.tup2 (XV.bin o_add (XV.var 4 rfl) (XV.var 2 rfl)) (XV.bin o_add (XV.var 3 rfl) (XV.var 1 rfl))) (XL.cons (XV.tup2 (XV.bin o_add (XV.var 4 rfl) (XV.bin o_mul XV.int (XV.var 2 rfl))) (XV.bin o_add (XV.var 3 rfl) (XV.bin o_mul XV.int (XV.var 1 rfl)))) (XL.cons (XV.tup2 (XV.bin o_add (XV.var 4 rfl) (XV.bin o_mul XV.int (XV.var 2 rfl))) (XV.bin o_add (XV.var 3 rfl) (XV.bin o_mul XV.int (XV.var 1 rfl)))) XL.nil)))) (ll_fin (ll_cons (ll_cons (ll_cons (ll_cons ll_nil)))))))
      intro row
      exact XB.nilT (t := row) rfl (wk [0, 1, 2, 3, 4])
    · skip
      exact XB.nilT (t := row) rfl (wk [0, 6, 7, 8, 9])
    intro σ37
    refine XB.asg 2 [2, 3, 4] (fun found => [(2, SV.sh (toD found)), (3, SV.sh (toD wide)), (0, SV.sh (toD draws)), (1, SV.sh (toD first))]) hN ?ex ?_
    case ex => exact (XF.v (XF.cat (XV.w (XV.var 1 rfl)) (XF.w (XF.lc [("x", 11), ("y", 12)] [0, 1, 2, 3, 4] [(10, SV.sh (toD σ37)), (2, SV.sh (toD σ5)), (3, SV.sh (toD wide)), (0, SV.sh (toD draws)), (1, SV.sh (toD first))] (fun ξ38 => [(12, SV.sh (toD ξ38.2)), (11, SV.sh (toD ξ38.1)), (10, SV.sh (toD σ37)), (2, SV.sh (toD σ5)), (3, SV.sh (toD wide)), (0, SV.sh (toD draws)), (1, SV.sh (toD first))]) rfl hN (XI.list (XV.var 0 rfl)) (by rfl) (fun ξ38 _ _ _ _ _ => (XG.tup rfl (XGs.cons (ρ1 := [(11, SV.sh (toD ξ38.1)), (10, SV.sh (toD σ37)), (2, SV.sh (toD σ5)), (3, SV.sh (toD wide)), (0, SV.sh (toD draws)), (1, SV.sh (toD first))]) (XG.name 11 [0, 1, 2, 3, 4] hN) (XGs.cons (ρ1 := [(12, SV.sh (toD ξ38.2)), (11, SV.sh (toD ξ38.1)), (10, SV.sh (toD σ37)), (2, SV.sh (toD σ5)), (3, SV.sh (toD wide)), (0, SV.sh (toD draws)), (1, SV.sh (toD first))]) (XG.name 12 [0, 1, 2, 3, 4, 5] hN) XGs.nil)))) (fun ξ38 _ _ _ _ _ => (XTs.one (XT.pw (XT.and (XT.chain c_le c_le (XV.w XV.int) (XV.w (XV.var 1 rfl)) (XV.w XV.int)) (XT.and1 (XT.chain c_le c_le (XV.w XV.int) (XV.w (XV.var 0 rfl)) (XV.w XV.int))))))) (fun ξ38 _ _ _ _ _ => (XV.tup2 (XV.var 1 rfl) (XV.var 0 rfl)))))))
    intro found
    exact XB.nilT (t := found) rfl (wk [0, 1, 2, 3])
  intro σ44
  refine XB.asg 2 [] (fun found => [(2, SV.sh (toD found))]) hN ?ex ?_
  case ex => exact (XF.v (XF.slice (XF.w (XF.sortedT rfl gr.r.units bi.b_sorted (XUT.set rfl gr.r.units bi.b_set (XV.w (XV.var 0 rfl))))) XO.none (XO.some XV.int)))
  intro found
  exact XB.ret (XV.orL (XV.var 0 rfl) (XV.oneL (XF.v (XF.lst1 (XV.tup2 XV.int XV.int)))))
def N._law_is_house (house : (List (Int × Int))) : Res Bool :=
  (if (!decide ((lenL house) = (4 : Int))) then .ok true else ((setT house) >>= fun τ3 => (sortT τ3) >>= fun τ4 => .ok (!decide (house = τ4)))) >>= fun τ5 => (if τ5 then (.ok false) else
  ((unL4 house) >>= fun π7 => (mulI (π7.b.1 - π7.a.1) (π7.c.1 - π7.a.1)) >>= fun τ12 => (mulI (π7.b.2 - π7.a.2) (π7.c.2 - π7.a.2)) >>= fun τ13 => (let square : Bool := (decide ((τ12 + τ13) = (0 : Int)))
  (if square then (.ok (decide ((((π7.b.1 + π7.c.1) - π7.a.1), ((π7.b.2 + π7.c.2) - π7.a.2)) = π7.d))) else .ok false) >>= fun τ14 => .ok τ14)))
def M._law_is_house (house : (List (Int × Int))) : Res Bool :=
  (((((.ok house) >>= fun a => Res.ok (lenL a)) >>= fun a => (.ok (4 : Int)) >>= fun b => .ok (!decide (a = b))) >>= fun c => if c then .ok true else ((.ok house) >>= fun a => (((.ok house) >>= fun a => setT a) >>= fun a => sortT a) >>= fun b => .ok (!decide (a = b)))) >>= fun b => if b then .ok false else (((.ok house) >>= unL4) >>= fun π7 => (((((((.ok π7.b) >>= fun a => .ok a.1) >>= fun a => ((.ok π7.a) >>= fun a => .ok a.1) >>= fun b => Res.ok (a - b)) >>= fun a => (((.ok π7.c) >>= fun a => .ok a.1) >>= fun a => ((.ok π7.a) >>= fun a => .ok a.1) >>= fun b => Res.ok (a - b)) >>= fun b => mulI a b) >>= fun a => ((((.ok π7.b) >>= fun a => .ok a.2) >>= fun a => ((.ok π7.a) >>= fun a => .ok a.2) >>= fun b => Res.ok (a - b)) >>= fun a => (((.ok π7.c) >>= fun a => .ok a.2) >>= fun a => ((.ok π7.a) >>= fun a => .ok a.2) >>= fun b => Res.ok (a - b)) >>= fun b => mulI a b) >>= fun b => Res.ok (a + b)) >>= fun a => (.ok (0 : Int)) >>= fun b => .ok (decide (a = b))) >>= fun square => ((.ok square) >>= fun c => if c then ((((((.ok π7.b) >>= fun a => .ok a.1) >>= fun a => ((.ok π7.c) >>= fun a => .ok a.1) >>= fun b => Res.ok (a + b)) >>= fun a => ((.ok π7.a) >>= fun a => .ok a.1) >>= fun b => Res.ok (a - b)) >>= fun a => ((((.ok π7.b) >>= fun a => .ok a.2) >>= fun a => ((.ok π7.c) >>= fun a => .ok a.2) >>= fun b => Res.ok (a + b)) >>= fun a => ((.ok π7.a) >>= fun a => .ok a.2) >>= fun b => Res.ok (a - b)) >>= fun b => Res.ok (a, b)) >>= fun a => (.ok π7.d) >>= fun b => .ok (decide (a = b))) else .ok false))))
theorem M._law_is_house_eq : @M._law_is_house = @N._law_is_house := by
  funext house
  delta M._law_is_house
  delta N._law_is_house
  simp only [Res.bind_assoc', Res.ok_bind2, Res.bind_ok] <;> rfl
theorem sc__law_is_house : FnScope ["house", "a", "b", "c", "d", "square"] ["house"] (defScope s__law_is_house) := ⟨rfl, rfl, rfl, by decide +kernel, rfl, by decide +kernel, by decide +kernel⟩
theorem ok__law_is_house {P : Program} {w : World} {K : PySem.W.Frag} {mg : Str → Option Value} {base : Heap} (bi : Bi P K mg) {fa : Addr} {fd : FuncData} (F : FunD K "_law_is_house" "_law_is_house" (defArgs s__law_is_house) (defBody s__law_is_house) (defScope s__law_is_house) [] [] fa fd)   :
    FnV P w K mg base 2 fa fd ["house"] (Rn1 N._law_is_house) := by
  rw [← M._law_is_house_eq]
  refine fn1 F sc__law_is_house rfl (by decide) fun cdv A outer s H E gr house => ?_
  have tk : Takes (defX P w K mg base ["house", "a", "b", "c", "d", "square"] "_law_is_house" (defScope s__law_is_house) fa cdv A outer s H E) (defW E) := takes_of rfl rfl rfl rfl
  have hp : PassesOwn (model (defX P w K mg base ["house", "a", "b", "c", "d", "square"] "_law_is_house" (defScope s__law_is_house) fa cdv A outer s H E).prog (defX P w K mg base ["house", "a", "b", "c", "d", "square"] "_law_is_house" (defScope s__law_is_house) fa cdv A outer s H E).w) (defX P w K mg base ["house", "a", "b", "c", "d", "square"] "_law_is_house" (defScope s__law_is_house) fa cdv A outer s H E).A (defX P w K mg base ["house", "a", "b", "c", "d", "square"] "_law_is_house" (defScope s__law_is_house) fa cdv A outer s H E).env (defX P w K mg base ["house", "a", "b", "c", "d", "square"] "_law_is_house" (defScope s__law_is_house) fa cdv A outer s H E).xe := passes_of rfl
  have hN := sc__law_is_house.nd
  unfold M._law_is_house
  refine XB.ifR ?tst ?_ ?_ (by intro t h ρ2 h2; cases h2)
  case tst => exact (XT.pw (XT.or (XT.cmp (c_ne (α := Int) gr.r) (XV.w (XV.callB b_len (by rfl) bi.b_len (by rfl) (XV.w (XV.var 0 rfl)))) (XV.w XV.int)) (XT.or1 (XT.cmp (c_ne (α := (List (Int × Int))) gr.r) (XV.w (XV.var 0 rfl)) (XF.w (XF.sortedT rfl gr.r.units bi.b_sorted (XUT.set rfl gr.r.units bi.b_set (XV.w (XV.var 0 rfl)))))))))
  · skip
    exact XB.ret XV.bool
  · skip
    refine XB.asgT [1, 2, 3, 4] (fun π7 => [(4, SV.sh (toD π7.d)), (3, SV.sh (toD π7.c)), (2, SV.sh (toD π7.b)), (1, SV.sh (toD π7.a))]) hN ?ex (fun π7 => XG.weak (ρ0 := []) ((XG.lst rfl (XGs.cons (ρ1 := [(1, SV.sh (toD π7.a))]) (XG.name 1 [] hN) (XGs.cons (ρ1 := [(2, SV.sh (toD π7.b)), (1, SV.sh (toD π7.a))]) (XG.name 2 [0] hN) (XGs.cons (ρ1 := [(3, SV.sh (toD π7.c)), (2, SV.sh (toD π7.b)), (1, SV.sh (toD π7.a))]) (XG.name 3 [0, 1] hN) (XGs.cons (ρ1 := [(4, SV.sh (toD π7.d)), (3, SV.sh (toD π7.c)), (2, SV.sh (toD π7.b)), (1, SV.sh (toD π7.a))]) (XG.name 4 [0, 1, 2] hN) XGs.nil)))))) (wk [])) ?_
    case ex => exact (XV.unL4 (XV.var 0 rfl))
    intro π7
    refine XB.asg 5 [0, 1, 2, 3] (fun square => [(5, SV.sh (toD square)), (4, SV.sh (toD π7.d)), (3, SV.sh (toD π7.c)), (2, SV.sh (toD π7.b)), (1, SV.sh (toD π7.a))]) hN ?ex ?_
    case ex => exact (XV.cmp (c_eq (α := Int) gr.r) (XV.w (XV.bin o_add (XV.bin o_mul (XV.bin o_sub (XV.item (k := 0) (fun a : (Int × Int) => a.1) (fun _ => ⟨_, rfl, rfl⟩) (XV.w (XV.var 2 rfl))) (XV.item (k := 0) (fun a : (Int × Int) => a.1) (fun _ => ⟨_, rfl, rfl⟩) (XV.w (XV.var 3 rfl)))) (XV.bin o_sub (XV.item (k := 0) (fun a : (Int × Int) => a.1) (fun _ => ⟨_, rfl, rfl⟩) (XV.w (XV.var 1 rfl))) (XV.item (k := 0) (fun a : (Int × Int) => a.1) (fun _ => ⟨_, rfl, rfl⟩) (XV.w (XV.var 3 rfl))))) (XV.bin o_mul (XV.bin o_sub (XV.item (k := 1) (fun a : (Int × Int) => a.2) (fun _ => ⟨_, rfl, rfl⟩) (XV.w (XV.var 2 rfl))) (XV.item (k := 1) (fun a : (Int × Int) => a.2) (fun _ => ⟨_, rfl, rfl⟩) (XV.w (XV.var 3 rfl)))) (XV.bin o_sub (XV.item (k := 1) (fun a : (Int × Int) => a.2) (fun _ => ⟨_, rfl, rfl⟩) (XV.w (XV.var 1 rfl))) (XV.item (k := 1) (fun a : (Int × Int) => a.2) (fun _ => ⟨_, rfl, rfl⟩) (XV.w (XV.var 3 rfl))))))) (XV.w XV.int))
    intro square
    exact XB.ret (XV.and (XV.var 0 rfl) (XV.one (XV.cmp (c_eq (α := (Int × Int)) gr.r) (XV.w (XV.tup2 (XV.bin o_sub (XV.bin o_add (XV.item (k := 0) (fun a : (Int × Int) => a.1) (fun _ => ⟨_, rfl, rfl⟩) (XV.w (XV.var 3 rfl))) (XV.item (k := 0) (fun a : (Int × Int) => a.1) (fun _ => ⟨_, rfl, rfl⟩) (XV.w (XV.var 2 rfl)))) (XV.item (k := 0) (fun a : (Int × Int) => a.1) (fun _ => ⟨_, rfl, rfl⟩) (XV.w (XV.var 4 rfl)))) (XV.bin o_sub (XV.bin o_add (XV.item (k := 1) (fun a : (Int × Int) => a.2) (fun _ => ⟨_, rfl, rfl⟩) (XV.w (XV.var 3 rfl))) (XV.item (k := 1) (fun a : (Int × Int) => a.2) (fun _ => ⟨_, rfl, rfl⟩) (XV.w (XV.var 2 rfl)))) (XV.item (k := 1) (fun a : (Int × Int) => a.2) (fun _ => ⟨_, rfl, rfl⟩) (XV.w (XV.var 4 rfl)))))) (XV.w (XV.var 1 rfl)))))
def N._law_houses_l1  : ((List (List (Int × Int)))) → (Int × Int) → Res ((List (List (Int × Int)))) := fun σ1 ξ2 =>
  (lcR (fun ξ3 => .ok (decide ((lenL ξ3) < (4 : Int)))) (fun ξ3 => (catL ξ3 [ξ2]) >>= fun τ4 => .ok τ4) σ1) >>= fun τ5 => (catL σ1 τ5) >>= fun lists => .ok lists
def N._law_houses (posts : (List (Int × Int))) : Res (List (List (Int × Int))) :=
  (let lists : (List (List (Int × Int))) := [([] : (List (Int × Int)))]
  (foldR (N._law_houses_l1) posts lists) >>= fun σ7 => (lcR (fun ξ8 => (N._law_is_house ξ8) >>= fun τ10 => .ok τ10) (fun ξ8 => .ok ξ8) σ7) >>= fun τ11 => (sortL τ11) >>= fun τ12 => .ok τ12)
def M._law_houses (posts : (List (Int × Int))) : Res (List (List (Int × Int))) :=
  (((.ok ([] : (List (Int × Int)))) >>= fun a => Res.ok [a]) >>= fun lists => ((.ok posts) >>= fun xs => foldR (fun σ1 ξ2 => (((.ok σ1) >>= fun a => ((.ok σ1) >>= fun xs => lcR (fun ξ3 => (((.ok ξ3) >>= fun a => Res.ok (lenL a)) >>= fun a => (.ok (4 : Int)) >>= fun b => .ok (decide (a < b)))) (fun ξ3 => ((.ok ξ3) >>= fun a => ((.ok ξ2) >>= fun a => Res.ok [a]) >>= fun b => catL a b)) xs) >>= fun b => catL a b) >>= fun lists => (.ok lists))) xs lists >>= fun σ7 => (((.ok σ7) >>= fun xs => lcR (fun ξ8 => ((.ok ξ8) >>= fun x1 => N._law_is_house x1)) (fun ξ8 => (.ok ξ8)) xs) >>= fun a => sortL a)))
theorem M._law_houses_eq : @M._law_houses = @N._law_houses := by
  funext posts
  delta M._law_houses
  delta N._law_houses
  delta N._law_houses_l1
  simp only [Res.bind_assoc', Res.ok_bind2, Res.bind_ok] <;> rfl
theorem sc__law_houses : FnScope ["posts", "lists", "post", "one"] ["posts"] (defScope s__law_houses) := ⟨rfl, rfl, rfl, by decide +kernel, rfl, by decide +kernel, by decide +kernel⟩
theorem ok__law_houses {P : Program} {w : World} {K : PySem.W.Frag} {mg : Str → Option Value} {base : Heap} (bi : Bi P K mg) {fa : Addr} {fd : FuncData} (F : FunD K "_law_houses" "_law_houses" (defArgs s__law_houses) (defBody s__law_houses) (defScope s__law_houses) [] [] fa fd) {f__law_is_house : Addr} {fd__law_is_house : FuncData} (C__law_is_house : FnC K mg "_law_is_house" f__law_is_house fd__law_is_house ["house"]) (G__law_is_house : FnV P w K mg base 2 f__law_is_house fd__law_is_house ["house"] (Rn1 N._law_is_house)) :
    FnV P w K mg base 3 fa fd ["posts"] (Rn1 N._law_houses) := by
  rw [← M._law_houses_eq]
  refine fn1 F sc__law_houses rfl (by decide) fun cdv A outer s H E gr posts => ?_
  have tk : Takes (defX P w K mg base ["posts", "lists", "post", "one"] "_law_houses" (defScope s__law_houses) fa cdv A outer s H E) (defW E) := takes_of rfl rfl rfl rfl
  have hp : PassesOwn (model (defX P w K mg base ["posts", "lists", "post", "one"] "_law_houses" (defScope s__law_houses) fa cdv A outer s H E).prog (defX P w K mg base ["posts", "lists", "post", "one"] "_law_houses" (defScope s__law_houses) fa cdv A outer s H E).w) (defX P w K mg base ["posts", "lists", "post", "one"] "_law_houses" (defScope s__law_houses) fa cdv A outer s H E).A (defX P w K mg base ["posts", "lists", "post", "one"] "_law_houses" (defScope s__law_houses) fa cdv A outer s H E).env (defX P w K mg base ["posts", "lists", "post", "one"] "_law_houses" (defScope s__law_houses) fa cdv A outer s H E).xe := passes_of rfl
  have hN := sc__law_houses.nd
  unfold M._law_houses
  refine XB.asg 1 [0] (fun lists => [(1, SV.sh (toD lists)), (0, SV.sh (toD posts))]) hN ?ex ?_
  case ex => exact (XF.v (XF.lst1 (XF.v XF.lst0)))
  intro lists
  refine XB.forS (fun (σ1 : (List (List (Int × Int)))) => [(1, SV.sh (toD σ1))]) (fun (σ1 : (List (List (Int × Int)))) (ξ2 : (Int × Int)) => [(2, SV.sh (toD ξ2)), (1, SV.sh (toD σ1))]) hp rfl (XI.list (XV.var 1 rfl)) (fun σ1 ξ2 => (XG.name 2 [0] hN)) ?_ (wk [0]) ?_
  · intro σ1 ξ2
    refine XB.asg 1 [] (fun lists => [(1, SV.sh (toD lists))]) hN ?ex ?_
    case ex => exact (XF.v (XF.cat (XV.w (XV.var 1 rfl)) (XF.w (XF.lc [("one", 3)] [0, 1] [(2, SV.sh (toD ξ2)), (1, SV.sh (toD σ1))] (fun ξ3 => [(3, SV.sh (toD ξ3)), (2, SV.sh (toD ξ2)), (1, SV.sh (toD σ1))]) rfl hN (XI.list (XV.var 1 rfl)) (by rfl) (fun ξ3 _ _ _ _ _ => (XG.name 3 [0, 1] hN)) (fun ξ3 _ _ _ _ _ => (XTs.one (XT.cmp c_lt (XV.w (XV.callB b_len (by rfl) bi.b_len (by rfl) (XV.w (XV.var 0 rfl)))) (XV.w XV.int)))) (fun ξ3 _ _ _ _ _ => (XF.v (XF.cat (XV.w (XV.var 0 rfl)) (XF.w (XF.lst1 (XV.var 1 rfl))))))))))
    intro lists
    exact XB.nilT (t := lists) rfl (wk [0])
  intro σ7
  exact XB.ret (XF.v (XF.callB (b_sorted (α := (List (Int × Int))) gr.r.units) (by rfl) bi.b_sorted (by rfl) (XF.w (XF.lc [("one", 3)] [0] [(1, SV.sh (toD σ7))] (fun ξ8 => [(3, SV.sh (toD ξ8)), (1, SV.sh (toD σ7))]) rfl hN (XI.list (XV.var 0 rfl)) (by rfl) (fun ξ8 _ _ _ _ _ => (XG.name 3 [0] hN)) (fun ξ8 _ _ _ _ _ => (XTs.one (XT.val (XV.fn1 (G__law_is_house.mono (by decide)) C__law_is_house gr takes0 (XV.var 0 rfl))))) (fun ξ8 _ _ _ _ _ => (XV.var 0 rfl))))))
def N._law_rows_c1 (posts : (List (Int × Int))) (π6 : (U2 Int Int)) : ((List (Int × Int))) → Res Bool := fun σ7 =>
  (getL σ7 (-(1 : Int))) >>= fun τ13 => (getL σ7 (-(1 : Int))) >>= fun τ15 => .ok (memB ((τ13.1 + π6.a), (τ15.2 + π6.b)) posts)
def N._law_rows_l1 (π6 : (U2 Int Int)) : ((List (Int × Int))) → Res ((List (Int × Int))) := fun σ7 =>
  (getL σ7 (-(1 : Int))) >>= fun τ17 => (getL σ7 (-(1 : Int))) >>= fun τ19 => (pushL σ7 ((τ17.1 + π6.a), (τ19.2 + π6.b))) >>= fun told => .ok told
def N._law_rows_l2 (posts : (List (Int × Int))) (ξ2 : (Int × Int)) : ((List (List (Int × Int)))) → (Int × Int) → Res ((List (List (Int × Int)))) := fun σ3 ξ4 =>
  (if (Ord1.lt ξ2 ξ4) then ((unL2 [(ξ4.1 - ξ2.1), (ξ4.2 - ξ2.2)]) >>= fun π6 => (let told : (List (Int × Int)) := [ξ2]
  (whileR (N._law_rows_c1 posts π6) (N._law_rows_l1 π6) told) >>= fun σ20 => (if (decide ((2 : Int) < (lenL σ20))) then (.ok (!memB ((ξ2.1 - π6.a), (ξ2.2 - π6.b)) posts)) else .ok false) >>= fun τ21 => (if τ21 then ((pushL σ3 σ20) >>= fun found => .ok found) else
  (.ok σ3)) >>= fun σ22 => .ok σ22)) else
  (.ok σ3)) >>= fun σ23 => .ok σ23
def N._law_rows_l3 (posts : (List (Int × Int))) : ((List (List (Int × Int)))) → (Int × Int) → Res ((List (List (Int × Int)))) := fun σ1 ξ2 =>
  (foldR (N._law_rows_l2 posts ξ2) posts σ1) >>= fun σ24 => .ok σ24
def N._law_rows (posts : (List (Int × Int))) : Res (List (List (Int × Int))) :=
  (let found : (List (List (Int × Int))) := ([] : (List (List (Int × Int))))
  (foldR (N._law_rows_l3 posts) posts found) >>= fun σ25 => (sortL σ25) >>= fun τ26 => .ok τ26)
def M._law_rows (posts : (List (Int × Int))) : Res (List (List (Int × Int))) :=
  ((.ok ([] : (List (List (Int × Int))))) >>= fun found => ((.ok posts) >>= fun xs => foldR (fun σ1 ξ2 => ((.ok posts) >>= fun xs => foldR (fun σ3 ξ4 => (((.ok ξ2) >>= fun a => (.ok ξ4) >>= fun b => .ok (Ord1.lt a b)) >>= fun b => (if b then ((((((.ok ξ4) >>= fun a => .ok a.1) >>= fun a => ((.ok ξ2) >>= fun a => .ok a.1) >>= fun b => Res.ok (a - b)) >>= fun a => (((.ok ξ4) >>= fun a => .ok a.2) >>= fun a => ((.ok ξ2) >>= fun a => .ok a.2) >>= fun b => Res.ok (a - b)) >>= fun b => Res.ok [a, b]) >>= unL2) >>= fun π6 => (((.ok ξ2) >>= fun a => Res.ok [a]) >>= fun told => (whileR (fun σ7 => ((((((.ok σ7) >>= fun a => ((.ok (1 : Int)) >>= fun a => Res.ok (-a)) >>= fun b => getL a b) >>= fun a => .ok a.1) >>= fun a => (.ok π6.a) >>= fun b => Res.ok (a + b)) >>= fun a => ((((.ok σ7) >>= fun a => ((.ok (1 : Int)) >>= fun a => Res.ok (-a)) >>= fun b => getL a b) >>= fun a => .ok a.2) >>= fun a => (.ok π6.b) >>= fun b => Res.ok (a + b)) >>= fun b => Res.ok (a, b)) >>= fun a => (.ok posts) >>= fun b => .ok (memB a b))) (fun σ7 => ((((((.ok σ7) >>= fun a => ((.ok (1 : Int)) >>= fun a => Res.ok (-a)) >>= fun b => getL a b) >>= fun a => .ok a.1) >>= fun a => (.ok π6.a) >>= fun b => Res.ok (a + b)) >>= fun a => ((((.ok σ7) >>= fun a => ((.ok (1 : Int)) >>= fun a => Res.ok (-a)) >>= fun b => getL a b) >>= fun a => .ok a.2) >>= fun a => (.ok π6.b) >>= fun b => Res.ok (a + b)) >>= fun b => Res.ok (a, b)) >>= fun y => pushL σ7 y >>= fun told => (.ok told))) told >>= fun σ20 => (((((.ok σ20) >>= fun a => Res.ok (lenL a)) >>= fun a => (.ok (2 : Int)) >>= fun b => .ok (decide (b < a))) >>= fun c => if c then (((((.ok ξ2) >>= fun a => .ok a.1) >>= fun a => (.ok π6.a) >>= fun b => Res.ok (a - b)) >>= fun a => (((.ok ξ2) >>= fun a => .ok a.2) >>= fun a => (.ok π6.b) >>= fun b => Res.ok (a - b)) >>= fun b => Res.ok (a, b)) >>= fun a => (.ok posts) >>= fun b => .ok (!memB a b)) else .ok false) >>= fun b => (if b then ((.ok σ20) >>= fun y => pushL σ3 y >>= fun found => (.ok found)) else (.ok σ3)) >>= fun σ22 => (.ok σ22))))) else (.ok σ3)) >>= fun σ23 => (.ok σ23))) xs σ1 >>= fun σ24 => (.ok σ24))) xs found >>= fun σ25 => ((.ok σ25) >>= fun a => sortL a)))
theorem M._law_rows_eq : @M._law_rows = @N._law_rows := by
  funext posts
  delta M._law_rows
  delta N._law_rows
  delta N._law_rows_l3
  delta N._law_rows_l2
  delta N._law_rows_l1
  delta N._law_rows_c1
  simp only [Res.bind_assoc', Res.ok_bind2, Res.bind_ok] <;> rfl
theorem sc__law_rows : FnScope ["posts", "found", "one", "two", "dx", "dy", "told"] ["posts"] (defScope s__law_rows) := ⟨rfl, rfl, rfl, by decide +kernel, rfl, by decide +kernel, by decide +kernel⟩
theorem ok__law_rows {P : Program} {w : World} {K : PySem.W.Frag} {mg : Str → Option Value} {base : Heap} (bi : Bi P K mg) {fa : Addr} {fd : FuncData} (F : FunD K "_law_rows" "_law_rows" (defArgs s__law_rows) (defBody s__law_rows) (defScope s__law_rows) [] [] fa fd)   :
    FnV P w K mg base 2 fa fd ["posts"] (Rn1 N._law_rows) := by
  rw [← M._law_rows_eq]
  refine fn1 F sc__law_rows rfl (by decide) fun cdv A outer s H E gr posts => ?_
  have tk : Takes (defX P w K mg base ["posts", "found", "one", "two", "dx", "dy", "told"] "_law_rows" (defScope s__law_rows) fa cdv A outer s H E) (defW E) := takes_of rfl rfl rfl rfl
  have hp : PassesOwn (model (defX P w K mg base ["posts", "found", "one", "two", "dx", "dy", "told"] "_law_rows" (defScope s__law_rows) fa cdv A outer s H E).prog (defX P w K mg base ["posts", "found", "one", "two", "dx", "dy", "told"] "_law_rows" (defScope s__law_rows) fa cdv A outer s H E).w) (defX P w K mg base ["posts", "found", "one", "two", "dx", "dy", "told"] "_law_rows" (defScope s__law_rows) fa cdv A outer s H E).A (defX P w K mg base ["posts", "found", "one", "two", "dx", "dy", "told"] "_law_rows" (defScope s__law_rows) fa cdv A outer s H E).env (defX P w K mg base ["posts", "found", "one", "two", "dx", "dy", "told"] "_law_rows" (defScope s__law_rows) fa cdv A outer s H E).xe := passes_of rfl
  have hN := sc__law_rows.nd
  unfold M._law_rows
  refine XB.asgO 1 [0] (fun found => [(1, SV.ow (toD found)), (0, SV.sh (toD posts))]) hN ?ex ?_
  case ex => exact XF.lst0
  intro found
  refine XB.forS (fun (σ1 : (List (List (Int × Int)))) => [(1, SV.ow (toD σ1)), (0, SV.sh (toD posts))]) (fun (σ1 : (List (List (Int × Int)))) (ξ2 : (Int × Int)) => [(2, SV.sh (toD ξ2)), (1, SV.ow (toD σ1)), (0, SV.sh (toD posts))]) hp rfl (XI.list (XV.var 1 rfl)) (fun σ1 ξ2 => (XG.name 2 [0, 1] hN)) ?_ (wk [0, 1]) ?_
  · intro σ1 ξ2
    refine XB.forS (fun (σ3 : (List (List (Int × Int)))) => [(1, SV.ow (toD σ3)), (2, SV.sh (toD ξ2)), (0, SV.sh (toD posts))]) (fun (σ3 : (List (List (Int × Int)))) (ξ4 : (Int × Int)) => [(3, SV.sh (toD ξ4)), (1, SV.ow (toD σ3)), (2, SV.sh (toD ξ2)), (0, SV.sh (toD posts))]) hp rfl (XI.list (XV.var 2 rfl)) (fun σ3 ξ4 => (XG.name 3 [0, 1, 2] hN)) ?_ (wk [1, 0, 2]) ?_
    · intro σ3 ξ4
      refine XB.ifN (fun (σ23 : (List (List (Int × Int)))) => [(1, SV.ow (toD σ23)), (2, SV.sh (toD ξ2)), (0, SV.sh (toD posts))]) ?tst ?_ ?_ ?_
      case tst => exact (XT.cmp (c_ltD (α := (Int × Int)) gr.r.units) (XV.w (XV.var 2 rfl)) (XV.w (XV.var 0 rfl)))
      · skip
        refine XB.asgT [4, 5] (fun π6 => [(5, SV.sh (toD π6.b)), (4, SV.sh (toD π6.a)), (1, SV.ow (toD σ3)), (2, SV.sh (toD ξ2)), (0, SV.sh (toD posts))]) hN ?ex (fun π6 => XG.weak (ρ0 := [(1, SV.ow (toD σ3)), (2, SV.sh (toD ξ2)), (0, SV.sh (toD posts))]) ((XG.lst rfl (XGs.cons (ρ1 := [(4, SV.sh (toD π6.a)), (1, SV.ow (toD σ3)), (2, SV.sh (toD ξ2)), (0, SV.sh (toD posts))]) (XG.name 4 [0, 1, 2] hN) (XGs.cons (ρ1 := [(5, SV.sh (toD π6.b)), (4, SV.sh (toD π6.a)), (1, SV.ow (toD σ3)), (2, SV.sh (toD ξ2)), (0, SV.sh (toD posts))]) (XG.name 5 [0, 1, 2, 3] hN) XGs.nil)))) (wk [1, 2, 3])) ?_
        case ex => exact (XV.unL2 (XF.v (XF.lst2 (XV.bin o_sub (XV.item (k := 0) (fun a : (Int × Int) => a.1) (fun _ => ⟨_, rfl, rfl⟩) (XV.w (XV.var 0 rfl))) (XV.item (k := 0) (fun a : (Int × Int) => a.1) (fun _ => ⟨_, rfl, rfl⟩) (XV.w (XV.var 2 rfl)))) (XV.bin o_sub (XV.item (k := 1) (fun a : (Int × Int) => a.2) (fun _ => ⟨_, rfl, rfl⟩) (XV.w (XV.var 0 rfl))) (XV.item (k := 1) (fun a : (Int × Int) => a.2) (fun _ => ⟨_, rfl, rfl⟩) (XV.w (XV.var 2 rfl)))))))
        intro π6
        refine XB.asgO 6 [0, 1, 2, 3, 4] (fun told => [(6, SV.ow (toD told)), (5, SV.sh (toD π6.b)), (4, SV.sh (toD π6.a)), (1, SV.ow (toD σ3)), (2, SV.sh (toD ξ2)), (0, SV.sh (toD posts))]) hN ?ex ?_
        case ex => exact (XF.lst1 (XV.var 3 rfl))
        intro told
        refine XB.whileS (fun (σ7 : (List (Int × Int))) => [(6, SV.ow (toD σ7)), (5, SV.sh (toD π6.b)), (4, SV.sh (toD π6.a)), (1, SV.ow (toD σ3)), (2, SV.sh (toD ξ2)), (0, SV.sh (toD posts))]) hp (fun σ7 => (XT.cmp (c_inB (α := (Int × Int)) gr.r) (XV.w (XV.tup2 (XV.bin o_add (XV.item (k := 0) (fun a : (Int × Int) => a.1) (fun _ => ⟨_, rfl, rfl⟩) (XV.w (XV.idx (XW.own 0 rfl) (XV.neg XV.int)))) (XV.var 2 rfl)) (XV.bin o_add (XV.item (k := 1) (fun a : (Int × Int) => a.2) (fun _ => ⟨_, rfl, rfl⟩) (XV.w (XV.idx (XW.own 0 rfl) (XV.neg XV.int)))) (XV.var 1 rfl)))) (XV.w (XV.var 5 rfl)))) ?_ (wk [0, 1, 2, 3, 4, 5]) ?_
        · intro σ7
          refine XB.append 0 6 [1, 2, 3, 4, 5] (fun told => [(6, SV.ow (toD told)), (5, SV.sh (toD π6.b)), (4, SV.sh (toD π6.a)), (1, SV.ow (toD σ3)), (2, SV.sh (toD ξ2)), (0, SV.sh (toD posts))]) rfl ?ex ?_
          case ex => exact (XV.tup2 (XV.bin o_add (XV.item (k := 0) (fun a : (Int × Int) => a.1) (fun _ => ⟨_, rfl, rfl⟩) (XV.w (XV.idx (XW.own 0 rfl) (XV.neg XV.int)))) (XV.var 2 rfl)) (XV.bin o_add (XV.item (k := 1) (fun a : (Int × Int) => a.2) (fun _ => ⟨_, rfl, rfl⟩) (XV.w (XV.idx (XW.own 0 rfl) (XV.neg XV.int)))) (XV.var 1 rfl)))
          intro told
          exact XB.nilT (t := told) rfl (wk [0, 1, 2, 3, 4, 5])
        intro σ20
        refine XB.ifN (fun (σ22 : (List (List (Int × Int)))) => [(1, SV.ow (toD σ22)), (2, SV.sh (toD ξ2)), (0, SV.sh (toD posts))]) ?tst ?_ ?_ ?_
        case tst => exact (XT.pw (XT.and (XT.cmp c_gt (XV.w (XV.callB b_len (by rfl) bi.b_len (by rfl) (XW.own 0 rfl))) (XV.w XV.int)) (XT.and1 (XT.cmp (c_notinB (α := (Int × Int)) gr.r) (XV.w (XV.tup2 (XV.bin o_sub (XV.item (k := 0) (fun a : (Int × Int) => a.1) (fun _ => ⟨_, rfl, rfl⟩) (XV.w (XV.var 4 rfl))) (XV.var 2 rfl)) (XV.bin o_sub (XV.item (k := 1) (fun a : (Int × Int) => a.2) (fun _ => ⟨_, rfl, rfl⟩) (XV.w (XV.var 4 rfl))) (XV.var 1 rfl)))) (XV.w (XV.var 5 rfl))))))
        · skip
          refine XB.freeze (x := σ20) 0 6 [1, 2, 3, 4, 5] [(6, SV.sh (toD σ20)), (5, SV.sh (toD π6.b)), (4, SV.sh (toD π6.a)), (1, SV.ow (toD σ3)), (2, SV.sh (toD ξ2)), (0, SV.sh (toD posts))] rfl ?_
          refine XB.append 3 1 [4, 5] (fun found => [(1, SV.ow (toD found)), (2, SV.sh (toD ξ2)), (0, SV.sh (toD posts))]) rfl ?ex ?_
          case ex => exact (XV.var 0 rfl)
          intro found
          exact XB.nilT (t := found) rfl (wk [0, 1, 2])
        · skip
          exact XB.nilT (t := σ3) rfl (wk [3, 4, 5])
        intro σ22
        exact XB.nilT (t := σ22) rfl (wk [0, 1, 2])
      · skip
        exact XB.nilT (t := σ3) rfl (wk [1, 2, 3])
      intro σ23
      exact XB.nilT (t := σ23) rfl (wk [0, 1, 2])
    intro σ24
    exact XB.nilT (t := σ24) rfl (wk [0, 2])
  intro σ25
  exact XB.ret (XF.v (XF.callB (b_sorted (α := (List (Int × Int))) gr.r.units) (by rfl) bi.b_sorted (by rfl) (XW.own 0 rfl)))
def N._law_word (way : Int) (posts : (List (Int × Int))) : Res (PStr × Int) :=
  (tryR kn ((if (decide (way < (3 : Int))) then ((pickF [(fun x1 => N.rows x1 >>= fun z => .ok (dynR z)), (fun x1 => N.houses x1 >>= fun z => .ok (dynR z)), (fun x1 => N.middle x1 >>= fun z => .ok (dynR z))] way) >>= fun γ2 => (γ2 posts) >>= fun τ1 => .ok ()) else
  ((N.space posts ([] : (List (Int × Int)))) >>= fun τ3 => .ok ())) >>= fun σ4 => .ok ()) (fun σ5 => .ok ((ps "none"), (0 : Int))) [("WrongSize", fun i => .ok ((ps "size"), i)), ("BadPost", fun i => .ok ((ps "post"), i))])
def M._law_word (way : Int) (posts : (List (Int × Int))) : Res (PStr × Int) :=
  (tryR kn (((.ok way) >>= fun a => (.ok (3 : Int)) >>= fun b => .ok (decide (a < b))) >>= fun b => (if b then (((.ok way) >>= fun i => pickF [(fun x1 => N.rows x1 >>= fun z => .ok (dynR z)), (fun x1 => N.houses x1 >>= fun z => .ok (dynR z)), (fun x1 => N.middle x1 >>= fun z => .ok (dynR z))] i >>= fun g => (.ok posts) >>= fun x1 => g x1) >>= fun _ => (.ok ())) else (((.ok posts) >>= fun x1 => (.ok ([] : (List (Int × Int)))) >>= fun x2 => N.space x1 x2) >>= fun _ => (.ok ()))) >>= fun σ4 => (.ok ())) (fun σ5 => ((.ok (ps "none")) >>= fun a => (.ok (0 : Int)) >>= fun b => Res.ok (a, b))) [("WrongSize", fun i => ((.ok (ps "size")) >>= fun a => (.ok i) >>= fun b => Res.ok (a, b))), ("BadPost", fun i => ((.ok (ps "post")) >>= fun a => (.ok i) >>= fun b => Res.ok (a, b)))])
theorem M._law_word_eq : @M._law_word = @N._law_word := by
  funext way posts
  delta M._law_word
  delta N._law_word
  simp only [Res.bind_assoc', Res.ok_bind2, Res.bind_ok] <;> rfl
theorem sc__law_word : FnScope ["way", "posts", "e"] ["way", "posts"] (defScope s__law_word) := ⟨rfl, rfl, rfl, by decide +kernel, rfl, by decide +kernel, by decide +kernel⟩
theorem ok__law_word {P : Program} {w : World} {K : PySem.W.Frag} {mg : Str → Option Value} {base : Heap} (bi : Bi P K mg) {fa : Addr} {fd : FuncData} (F : FunD K "_law_word" "_law_word" (defArgs s__law_word) (defBody s__law_word) (defScope s__law_word) [] [] fa fd) {f_rows : Addr} {fd_rows : FuncData} (C_rows : FnC K mg "rows" f_rows fd_rows ["posts"]) {f_houses : Addr} {fd_houses : FuncData} (C_houses : FnC K mg "houses" f_houses fd_houses ["posts"]) {f_space : Addr} {fd_space : FuncData} (C_space : FnC K mg "space" f_space fd_space ["posts", "house"]) {f_middle : Addr} {fd_middle : FuncData} (C_middle : FnC K mg "middle" f_middle fd_middle ["posts"]) (G_rows : FnV P w K mg base 5 f_rows fd_rows ["posts"] (Rn1 N.rows)) (G_houses : FnV P w K mg base 5 f_houses fd_houses ["posts"] (Rn1 N.houses)) (G_space : FnV P w K mg base 5 f_space fd_space ["posts", "house"] (Rn2 N.space)) (G_middle : FnV P w K mg base 5 f_middle fd_middle ["posts"] (Rn1 N.middle)) :
    FnV P w K mg base 6 fa fd ["way", "posts"] (Rn2 N._law_word) := by
  rw [← M._law_word_eq]
  refine fn2 F sc__law_word rfl (by decide) fun cdv A outer s H E gr way posts => ?_
  have tk : Takes (defX P w K mg base ["way", "posts", "e"] "_law_word" (defScope s__law_word) fa cdv A outer s H E) (defW E) := takes_of rfl rfl rfl rfl
  have hp : PassesOwn (model (defX P w K mg base ["way", "posts", "e"] "_law_word" (defScope s__law_word) fa cdv A outer s H E).prog (defX P w K mg base ["way", "posts", "e"] "_law_word" (defScope s__law_word) fa cdv A outer s H E).w) (defX P w K mg base ["way", "posts", "e"] "_law_word" (defScope s__law_word) fa cdv A outer s H E).A (defX P w K mg base ["way", "posts", "e"] "_law_word" (defScope s__law_word) fa cdv A outer s H E).env (defX P w K mg base ["way", "posts", "e"] "_law_word" (defScope s__law_word) fa cdv A outer s H E).xe := passes_of rfl
  have hN := sc__law_word.nd
  unfold M._law_word
  refine XB.tryC kn (fun (σ5 : Unit) => []) bi.exm bi.dig hN tk ?_ (HdC.cons (i := 2) (by decide) rfl rfl rfl (by decide) (fun a dx i c oe pn hT hz hf => by exact XB.ret (XV.tup2 (XV.str (x := ps "size")) (XV.excAt (X := defX P w K mg base ["way", "posts", "e"] "_law_word" (defScope s__law_word) fa cdv A outer s H E) (a := a) (oe := oe) (pn := pn) hT hz hf 0 rfl))) (HdC.cons (i := 2) (by decide) rfl rfl rfl (by decide) (fun a dx i c oe pn hT hz hf => by exact XB.ret (XV.tup2 (XV.str (x := ps "post")) (XV.excAt (X := defX P w K mg base ["way", "posts", "e"] "_law_word" (defScope s__law_word) fa cdv A outer s H E) (a := a) (oe := oe) (pn := pn) hT hz hf 0 rfl))) .nil)) ?_ (fun _ => ⟨_, rfl⟩)
  · intro W2 pn2 xe2 tk hp
    refine XB.ifN (fun (σ4 : Unit) => []) ?tst ?_ ?_ ?_
    case tst => exact (XT.cmp c_lt (XV.w (XV.var 0 rfl)) (XV.w XV.int))
    · skip
      refine XB.expr ?ex ?_
      case ex => exact (XV.fnl1 (fs := [(fun x1 => N.rows x1 >>= fun z => .ok (dynR z)), (fun x1 => N.houses x1 >>= fun z => .ok (dynR z)), (fun x1 => N.middle x1 >>= fun z => .ok (dynR z))]) (.cons C_rows.mg rfl (by decide) rfl (.cons C_houses.mg rfl (by decide) rfl (.cons C_middle.mg rfl (by decide) rfl .nil))) (.cons C_rows (FnV.dyn1 (G_rows.mono (by decide))) (.cons C_houses (FnV.dyn1 (G_houses.mono (by decide))) (.cons C_middle (FnV.dyn1 (G_middle.mono (by decide))) .nil))) gr tk (XV.var 0 rfl) (XV.var 1 rfl))
      exact XB.nilT (t := ()) rfl (wk [])
    · skip
      refine XB.expr ?ex ?_
      case ex => exact (XV.fn2 (G_space.mono (by decide)) C_space gr tk (XV.var 1 rfl) (XF.v XF.lst0))
      exact XB.nilT (t := ()) rfl (wk [])
    intro σ4
    exact XB.nilT (t := ()) rfl (wk [])
  intro σ5
  exact XB.ret (XV.tup2 (XV.str (x := ps "none")) XV.int)
end Law
end
section
set_option Elab.async false
set_option linter.all false
set_option maxRecDepth 100000
set_option maxHeartbeats 0
noncomputable section
namespace Law
open Vs.Enc (toD)
open PySem PySem.Spec PyProof.Rows L2 Vs
def N.law_l1  : ((List (List (Int × Int)))) → (List (Int × Int)) → Res ((List (List (Int × Int)))) := fun σ23 ξ24 =>
  (getL ξ24 (3 : Int)) >>= fun τ41 => (getL ξ24 (3 : Int)) >>= fun τ42 => (catL (cutL ξ24 none (some (3 : Int))) [((τ41.1 + (1 : Int)), τ42.2)]) >>= fun τ43 => (getL ξ24 (3 : Int)) >>= fun τ46 => (getL ξ24 (2 : Int)) >>= fun τ47 => (catL (cutL ξ24 none (some (2 : Int))) [τ46, τ47]) >>= fun τ48 => (catL σ23 [ξ24.reverse, τ43, τ48]) >>= fun lists => .ok lists
def N.law_c2 (first : Int) (second : Int) : ((Option Int)) → Res Bool := fun σ68 =>
  (unO σ68) >>= fun τ73 => (unO σ68) >>= fun τ74 => (mulI τ73 τ74) >>= fun τ75 => (mulI first second) >>= fun τ76 => .ok (decide (τ75 < τ76))
def N.law_l2  : ((Option Int)) → Res ((Option Int)) := fun σ68 =>
  (unO σ68) >>= fun τ77 => (let due : (Option Int) := (some (τ77 + (1 : Int)))
  .ok due)
def N.law_l3 (posts : (List (Int × Int))) : (Unit) → (List (Int × Int)) → Res (Ctl Bool (Unit)) := fun σ51 ξ52 =>
  (let due : (Option Int) := none
  (lcR (fun ξ55 => .ok (!memB ξ55 posts)) (fun ξ55 => .ok ξ55) ξ52) >>= fun τ56 => (if (decide ((lenL τ56) = (0 : Int))) then ((N._law_is_house ξ52) >>= fun τ58 => .ok τ58) else .ok false) >>= fun τ59 => (if τ59 then ((unL4 ξ52) >>= fun π61 => (mulI (π61.b.1 - π61.a.1) (π61.b.1 - π61.a.1)) >>= fun τ63 => (mulI (π61.b.2 - π61.a.2) (π61.b.2 - π61.a.2)) >>= fun τ64 => (let first : Int := (τ63 + τ64)
  (mulI (π61.c.1 - π61.a.1) (π61.c.1 - π61.a.1)) >>= fun τ66 => (mulI (π61.c.2 - π61.a.2) (π61.c.2 - π61.a.2)) >>= fun τ67 => (let second : Int := (τ66 + τ67)
  (let due : (Option Int) := (some (0 : Int))
  (whileR (N.law_c2 first second) (N.law_l2) due) >>= fun σ78 => .ok σ78)))) else
  (.ok due)) >>= fun σ79 => (N.space posts ξ52) >>= fun τ83 => (reprR τ83) >>= fun τ84 => (reprR σ79) >>= fun τ85 => (if (!decide (τ84 = τ85)) then (.ok false) >>= fun o => .ok (Ctl.ex o) else
  (.ok (Ctl.nx ()))))
def N.law_l4 (posts : (List (Int × Int))) (k' : Int) (ξ118 : Int) : (Unit) → (Int × Int) → Res (Ctl Bool (Unit)) := fun σ132 ξ133 =>
  (catL (cutL posts none (some k')) [ξ133]) >>= fun τ137 => (catL τ137 (cutL posts (some (k' + (1 : Int))) none)) >>= fun τ138 => (N._law_word ξ118 τ138) >>= fun τ139 => (if (!decide (τ139 = ((ps "post"), k'))) then (.ok false) >>= fun o => .ok (Ctl.ex o) else
  (.ok (Ctl.nx ())))
def N.law_l5 (posts : (List (Int × Int))) (k' : Int) : (Unit) → Int → Res (Ctl Bool (Unit)) := fun σ117 ξ118 =>
  (N._law_word ξ118 ([] : (List (Int × Int)))) >>= fun τ120 => (if (!decide (τ120 = ((ps "size"), (0 : Int)))) then .ok true else ((repL [((9 : Int), (9 : Int))] (13 : Int)) >>= fun τ123 => (N._law_word ξ118 τ123) >>= fun τ124 => (if (!decide (τ124 = ((ps "size"), (13 : Int)))) then .ok true else ((if (decide ((lenL posts) < (12 : Int))) then ((catL posts (cutL posts (some (-(1 : Int))) none)) >>= fun τ127 => (N._law_word ξ118 τ127) >>= fun τ128 => .ok (!decide (τ128 = ((ps "post"), (lenL posts))))) else .ok false) >>= fun τ129 => .ok τ129)) >>= fun τ130 => .ok τ130)) >>= fun τ131 => (if τ131 then (.ok false) >>= fun o => .ok (Ctl.ex o) else
  ((foldC (N.law_l4 posts k' ξ118) [((61 : Int), (0 : Int)), ((0 : Int), (-(1 : Int))), ((0 : Int), (61 : Int))] ()) >>= fun κ141 => thenC (fun o => .ok (Ctl.ex o)) (fun σ140 => .ok (Ctl.nx ())) κ141))
def N.law (script : Scr) : Res Bool :=
  (N._law_draws script) >>= fun draws => (N._law_posts draws (10 : Int)) >>= fun posts => (reprR posts) >>= fun kept => (N._law_houses posts) >>= fun told => (N.rows posts) >>= fun τ9 => (reprR τ9) >>= fun τ10 => (N._law_rows posts) >>= fun τ11 => (reprR τ11) >>= fun τ12 => (if (!decide (τ10 = τ12)) then .ok true else ((N.houses posts) >>= fun τ16 => (reprR τ16) >>= fun τ17 => (reprR told) >>= fun τ18 => .ok (!decide (τ17 = τ18)))) >>= fun τ19 => (if τ19 then (.ok false) else
  ((repL [((61 : Int), (0 : Int))] (4 : Int)) >>= fun τ21 => (catL (cutL told none (some (3 : Int))) [(cutL posts none (some (4 : Int))), (cutL posts none (some (3 : Int))), (cutL posts none (some (4 : Int))).reverse, τ21, ([] : (List (Int × Int)))]) >>= fun lists => (foldR (N.law_l1) (cutL told none (some (3 : Int))) lists) >>= fun σ50 => (foldC (N.law_l3 posts) σ50 ()) >>= fun κ146 => thenC (fun o => .ok o) (fun σ86 => (getL posts (0 : Int)) >>= fun τ88 => (getL posts (-(1 : Int))) >>= fun τ89 => (getL posts (0 : Int)) >>= fun τ91 => (getL posts (-(1 : Int))) >>= fun τ92 => (let double : (Int × Int) := ((τ88.1 + τ89.1), (τ91.2 + τ92.2))
  (let due : (Option (Int × Int)) := none
  (lcR (fun ξ96 => .ok true) (fun ξ96 => .ok ((double.1 - ξ96.1), (double.2 - ξ96.2))) posts) >>= fun τ97 => (sortL τ97) >>= fun τ98 => (if (decide (τ98 = posts)) then (let due : (Option (Int × Int)) := (some double)
  .ok due) else
  (.ok due)) >>= fun σ99 => (N.middle posts) >>= fun τ103 => (reprR τ103) >>= fun τ104 => (reprR σ99) >>= fun τ105 => (if (!decide (τ104 = τ105)) then (.ok false) else
  ((lcR (fun ξ106 => .ok true) (fun ξ106 => .ok (ξ106.1, ξ106.2)) (cutL posts none (some (6 : Int)))) >>= fun τ107 => (lcR (fun ξ108 => .ok true) (fun ξ108 => .ok (((60 : Int) - ξ108.1), ((60 : Int) - ξ108.2))) (cutL posts none (some (6 : Int)))) >>= fun τ109 => (catL τ107 τ109) >>= fun τ110 => (setT τ110) >>= fun τ111 => (sortT τ111) >>= fun both => (N.middle both) >>= fun τ114 => (if (!decide (τ114 = (some ((60 : Int), (60 : Int))))) then (.ok false) else
  ((N._law_mix draws (80 : Int) (lenL posts)) >>= fun k' => (rangeR 0 (4 : Int)) >>= fun τ116 => (foldC (N.law_l5 posts k') τ116 ()) >>= fun κ145 => thenC (fun o => .ok o) (fun σ142 => (reprR posts) >>= fun τ144 => .ok (decide (τ144 = kept))) κ145))))))) κ146))
def M.law (script : Scr) : Res Bool :=
  (((.ok script) >>= fun x1 => N._law_draws x1) >>= fun draws => (((.ok draws) >>= fun x1 => (.ok (10 : Int)) >>= fun x2 => N._law_posts x1 x2) >>= fun posts => (((.ok posts) >>= fun a => reprR a) >>= fun kept => (((.ok posts) >>= fun x1 => N._law_houses x1) >>= fun told => ((((((.ok posts) >>= fun x1 => N.rows x1) >>= fun a => reprR a) >>= fun a => (((.ok posts) >>= fun x1 => N._law_rows x1) >>= fun a => reprR a) >>= fun b => .ok (!decide (a = b))) >>= fun c => if c then .ok true else ((((.ok posts) >>= fun x1 => N.houses x1) >>= fun a => reprR a) >>= fun a => ((.ok told) >>= fun a => reprR a) >>= fun b => .ok (!decide (a = b)))) >>= fun b => if b then .ok false else ((((.ok told) >>= fun a => (.ok none) >>= fun b => ((.ok (3 : Int)) >>= fun z => .ok (some z)) >>= fun c => Res.ok (cutL a b c)) >>= fun a => (((.ok posts) >>= fun a => (.ok none) >>= fun b => ((.ok (4 : Int)) >>= fun z => .ok (some z)) >>= fun c => Res.ok (cutL a b c)) >>= fun x => (((.ok posts) >>= fun a => (.ok none) >>= fun b => ((.ok (3 : Int)) >>= fun z => .ok (some z)) >>= fun c => Res.ok (cutL a b c)) >>= fun x => ((((.ok posts) >>= fun a => (.ok none) >>= fun b => ((.ok (4 : Int)) >>= fun z => .ok (some z)) >>= fun c => Res.ok (cutL a b c)) >>= fun a => .ok a.reverse) >>= fun x => (((((.ok (61 : Int)) >>= fun a => (.ok (0 : Int)) >>= fun b => Res.ok (a, b)) >>= fun a => Res.ok [a]) >>= fun a => (.ok (4 : Int)) >>= fun b => repL a b) >>= fun x => ((.ok ([] : (List (Int × Int)))) >>= fun x => (.ok []) >>= fun xs => .ok (x :: xs)) >>= fun xs => .ok (x :: xs)) >>= fun xs => .ok (x :: xs)) >>= fun xs => .ok (x :: xs)) >>= fun xs => .ok (x :: xs)) >>= fun b => catL a b) >>= fun lists => (((.ok told) >>= fun a => (.ok none) >>= fun b => ((.ok (3 : Int)) >>= fun z => .ok (some z)) >>= fun c => Res.ok (cutL a b c)) >>= fun xs => foldR (fun σ23 ξ24 => (((.ok σ23) >>= fun a => (((.ok ξ24) >>= fun a => .ok a.reverse) >>= fun a => (((.ok ξ24) >>= fun a => (.ok none) >>= fun b => ((.ok (3 : Int)) >>= fun z => .ok (some z)) >>= fun c => Res.ok (cutL a b c)) >>= fun a => ((((((.ok ξ24) >>= fun a => (.ok (3 : Int)) >>= fun b => getL a b) >>= fun a => .ok a.1) >>= fun a => (.ok (1 : Int)) >>= fun b => Res.ok (a + b)) >>= fun a => (((.ok ξ24) >>= fun a => (.ok (3 : Int)) >>= fun b => getL a b) >>= fun a => .ok a.2) >>= fun b => Res.ok (a, b)) >>= fun a => Res.ok [a]) >>= fun b => catL a b) >>= fun b => (((.ok ξ24) >>= fun a => (.ok none) >>= fun b => ((.ok (2 : Int)) >>= fun z => .ok (some z)) >>= fun c => Res.ok (cutL a b c)) >>= fun a => (((.ok ξ24) >>= fun a => (.ok (3 : Int)) >>= fun b => getL a b) >>= fun a => ((.ok ξ24) >>= fun a => (.ok (2 : Int)) >>= fun b => getL a b) >>= fun b => Res.ok [a, b]) >>= fun b => catL a b) >>= fun c => Res.ok [a, b, c]) >>= fun b => catL a b) >>= fun lists => (.ok lists))) xs lists >>= fun σ50 => ((.ok σ50) >>= fun xs => foldC (fun σ51 ξ52 => ((.ok (none : (Option Int))) >>= fun due => ((((((.ok ξ52) >>= fun xs => lcR (fun ξ55 => ((.ok ξ55) >>= fun a => (.ok posts) >>= fun b => .ok (!memB a b))) (fun ξ55 => (.ok ξ55)) xs) >>= fun a => Res.ok (lenL a)) >>= fun a => (.ok (0 : Int)) >>= fun b => .ok (decide (a = b))) >>= fun c => if c then ((.ok ξ52) >>= fun x1 => N._law_is_house x1) else .ok false) >>= fun b => (if b then (((.ok ξ52) >>= unL4) >>= fun π61 => ((((((.ok π61.b) >>= fun a => .ok a.1) >>= fun a => ((.ok π61.a) >>= fun a => .ok a.1) >>= fun b => Res.ok (a - b)) >>= fun a => (((.ok π61.b) >>= fun a => .ok a.1) >>= fun a => ((.ok π61.a) >>= fun a => .ok a.1) >>= fun b => Res.ok (a - b)) >>= fun b => mulI a b) >>= fun a => ((((.ok π61.b) >>= fun a => .ok a.2) >>= fun a => ((.ok π61.a) >>= fun a => .ok a.2) >>= fun b => Res.ok (a - b)) >>= fun a => (((.ok π61.b) >>= fun a => .ok a.2) >>= fun a => ((.ok π61.a) >>= fun a => .ok a.2) >>= fun b => Res.ok (a - b)) >>= fun b => mulI a b) >>= fun b => Res.ok (a + b)) >>= fun first => ((((((.ok π61.c) >>= fun a => .ok a.1) >>= fun a => ((.ok π61.a) >>= fun a => .ok a.1) >>= fun b => Res.ok (a - b)) >>= fun a => (((.ok π61.c) >>= fun a => .ok a.1) >>= fun a => ((.ok π61.a) >>= fun a => .ok a.1) >>= fun b => Res.ok (a - b)) >>= fun b => mulI a b) >>= fun a => ((((.ok π61.c) >>= fun a => .ok a.2) >>= fun a => ((.ok π61.a) >>= fun a => .ok a.2) >>= fun b => Res.ok (a - b)) >>= fun a => (((.ok π61.c) >>= fun a => .ok a.2) >>= fun a => ((.ok π61.a) >>= fun a => .ok a.2) >>= fun b => Res.ok (a - b)) >>= fun b => mulI a b) >>= fun b => Res.ok (a + b)) >>= fun second => (((.ok (0 : Int)) >>= fun z => .ok (some z)) >>= fun due => (whileR (fun σ68 => ((((.ok σ68) >>= fun z => unO z) >>= fun a => ((.ok σ68) >>= fun z => unO z) >>= fun b => mulI a b) >>= fun a => ((.ok first) >>= fun a => (.ok second) >>= fun b => mulI a b) >>= fun b => .ok (decide (a < b)))) (fun σ68 => (((((.ok σ68) >>= fun z => unO z) >>= fun a => (.ok (1 : Int)) >>= fun b => Res.ok (a + b)) >>= fun z => .ok (some z)) >>= fun due => (.ok due))) due >>= fun σ78 => (.ok σ78)))))) else (.ok due)) >>= fun σ79 => (((((.ok posts) >>= fun x1 => (.ok ξ52) >>= fun x2 => N.space x1 x2) >>= fun a => reprR a) >>= fun a => ((.ok σ79) >>= fun a => reprR a) >>= fun b => .ok (!decide (a = b))) >>= fun b => if b then .ok false >>= fun o => .ok (Ctl.ex o) else (.ok (Ctl.nx ())))))) xs () >>= fun t => thenC (fun o => .ok o) (fun σ86 => ((((((.ok posts) >>= fun a => (.ok (0 : Int)) >>= fun b => getL a b) >>= fun a => .ok a.1) >>= fun a => (((.ok posts) >>= fun a => ((.ok (1 : Int)) >>= fun a => Res.ok (-a)) >>= fun b => getL a b) >>= fun a => .ok a.1) >>= fun b => Res.ok (a + b)) >>= fun a => ((((.ok posts) >>= fun a => (.ok (0 : Int)) >>= fun b => getL a b) >>= fun a => .ok a.2) >>= fun a => (((.ok posts) >>= fun a => ((.ok (1 : Int)) >>= fun a => Res.ok (-a)) >>= fun b => getL a b) >>= fun a => .ok a.2) >>= fun b => Res.ok (a + b)) >>= fun b => Res.ok (a, b)) >>= fun double => ((.ok (none : (Option (Int × Int)))) >>= fun due => (((((.ok posts) >>= fun xs => lcR (fun ξ96 => (.ok true)) (fun ξ96 => ((((.ok double) >>= fun a => .ok a.1) >>= fun a => (.ok ξ96.1) >>= fun b => Res.ok (a - b)) >>= fun a => (((.ok double) >>= fun a => .ok a.2) >>= fun a => (.ok ξ96.2) >>= fun b => Res.ok (a - b)) >>= fun b => Res.ok (a, b))) xs) >>= fun a => sortL a) >>= fun a => (.ok posts) >>= fun b => .ok (decide (a = b))) >>= fun b => (if b then (((.ok double) >>= fun z => .ok (some z)) >>= fun due => (.ok due)) else (.ok due)) >>= fun σ99 => (((((.ok posts) >>= fun x1 => N.middle x1) >>= fun a => reprR a) >>= fun a => ((.ok σ99) >>= fun a => reprR a) >>= fun b => .ok (!decide (a = b))) >>= fun b => if b then .ok false else (((((((.ok posts) >>= fun a => (.ok none) >>= fun b => ((.ok (6 : Int)) >>= fun z => .ok (some z)) >>= fun c => Res.ok (cutL a b c)) >>= fun xs => lcR (fun ξ106 => (.ok true)) (fun ξ106 => ((.ok ξ106.1) >>= fun a => (.ok ξ106.2) >>= fun b => Res.ok (a, b))) xs) >>= fun a => (((.ok posts) >>= fun a => (.ok none) >>= fun b => ((.ok (6 : Int)) >>= fun z => .ok (some z)) >>= fun c => Res.ok (cutL a b c)) >>= fun xs => lcR (fun ξ108 => (.ok true)) (fun ξ108 => (((.ok (60 : Int)) >>= fun a => (.ok ξ108.1) >>= fun b => Res.ok (a - b)) >>= fun a => ((.ok (60 : Int)) >>= fun a => (.ok ξ108.2) >>= fun b => Res.ok (a - b)) >>= fun b => Res.ok (a, b))) xs) >>= fun b => catL a b) >>= fun a => setT a) >>= fun a => sortT a) >>= fun both => ((((.ok both) >>= fun x1 => N.middle x1) >>= fun a => (((.ok (60 : Int)) >>= fun a => (.ok (60 : Int)) >>= fun b => Res.ok (a, b)) >>= fun z => .ok (some z)) >>= fun b => .ok (!decide (a = b))) >>= fun b => if b then .ok false else (((.ok draws) >>= fun x1 => (.ok (80 : Int)) >>= fun x2 => ((.ok posts) >>= fun a => Res.ok (lenL a)) >>= fun x3 => N._law_mix x1 x2 x3) >>= fun k' => (((.ok (4 : Int)) >>= fun n => rangeR 0 n) >>= fun xs => foldC (fun σ117 ξ118 => (((((.ok ξ118) >>= fun x1 => (.ok ([] : (List (Int × Int)))) >>= fun x2 => N._law_word x1 x2) >>= fun a => ((.ok (ps "size")) >>= fun a => (.ok (0 : Int)) >>= fun b => Res.ok (a, b)) >>= fun b => .ok (!decide (a = b))) >>= fun c => if c then .ok true else ((((.ok ξ118) >>= fun x1 => ((((.ok (9 : Int)) >>= fun a => (.ok (9 : Int)) >>= fun b => Res.ok (a, b)) >>= fun a => Res.ok [a]) >>= fun a => (.ok (13 : Int)) >>= fun b => repL a b) >>= fun x2 => N._law_word x1 x2) >>= fun a => ((.ok (ps "size")) >>= fun a => (.ok (13 : Int)) >>= fun b => Res.ok (a, b)) >>= fun b => .ok (!decide (a = b))) >>= fun c => if c then .ok true else ((((.ok posts) >>= fun a => Res.ok (lenL a)) >>= fun a => (.ok (12 : Int)) >>= fun b => .ok (decide (a < b))) >>= fun c => if c then (((.ok ξ118) >>= fun x1 => ((.ok posts) >>= fun a => ((.ok posts) >>= fun a => (((.ok (1 : Int)) >>= fun a => Res.ok (-a)) >>= fun z => .ok (some z)) >>= fun b => (.ok none) >>= fun c => Res.ok (cutL a b c)) >>= fun b => catL a b) >>= fun x2 => N._law_word x1 x2) >>= fun a => ((.ok (ps "post")) >>= fun a => ((.ok posts) >>= fun a => Res.ok (lenL a)) >>= fun b => Res.ok (a, b)) >>= fun b => .ok (!decide (a = b))) else .ok false))) >>= fun b => if b then .ok false >>= fun o => .ok (Ctl.ex o) else ((((.ok (61 : Int)) >>= fun a => (.ok (0 : Int)) >>= fun b => Res.ok (a, b)) >>= fun a => ((.ok (0 : Int)) >>= fun a => ((.ok (1 : Int)) >>= fun a => Res.ok (-a)) >>= fun b => Res.ok (a, b)) >>= fun b => ((.ok (0 : Int)) >>= fun a => (.ok (61 : Int)) >>= fun b => Res.ok (a, b)) >>= fun c => Res.ok [a, b, c]) >>= fun xs => foldC (fun σ132 ξ133 => ((((.ok ξ118) >>= fun x1 => ((((.ok posts) >>= fun a => (.ok none) >>= fun b => ((.ok k') >>= fun z => .ok (some z)) >>= fun c => Res.ok (cutL a b c)) >>= fun a => ((.ok ξ133) >>= fun a => Res.ok [a]) >>= fun b => catL a b) >>= fun a => ((.ok posts) >>= fun a => (((.ok k') >>= fun a => (.ok (1 : Int)) >>= fun b => Res.ok (a + b)) >>= fun z => .ok (some z)) >>= fun b => (.ok none) >>= fun c => Res.ok (cutL a b c)) >>= fun b => catL a b) >>= fun x2 => N._law_word x1 x2) >>= fun a => ((.ok (ps "post")) >>= fun a => (.ok k') >>= fun b => Res.ok (a, b)) >>= fun b => .ok (!decide (a = b))) >>= fun b => if b then .ok false >>= fun o => .ok (Ctl.ex o) else (.ok (Ctl.nx ())))) xs () >>= fun t => thenC (fun o => .ok (Ctl.ex o)) (fun σ140 => (.ok (Ctl.nx ()))) t))) xs () >>= fun t => thenC (fun o => .ok o) (fun σ142 => (((.ok posts) >>= fun a => reprR a) >>= fun a => (.ok kept) >>= fun b => .ok (decide (a = b)))) t))))))))) t))))))))
theorem M.law_eq : @M.law = @N.law := by
  funext script
  delta M.law
  delta N.law
  delta N.law_l5
  delta N.law_l4
  delta N.law_l3
  delta N.law_l2
  delta N.law_c2
  delta N.law_l1
  simp only [Res.bind_assoc', Res.ok_bind2, Res.bind_ok] <;> rfl
theorem sc_law : FnScope ["script", "draws", "posts", "kept", "told", "lists", "house", "one", "due", "a", "b", "c", "d", "first", "second", "post", "double", "x", "y", "both", "k", "way", "bad"] ["script"] (defScope s_law) := ⟨rfl, rfl, rfl, by decide +kernel, rfl, by decide +kernel, by decide +kernel⟩
theorem ok_law {P : Program} {w : World} {K : PySem.W.Frag} {mg : Str → Option Value} {base : Heap} (bi : Bi P K mg) {fa : Addr} {fd : FuncData} (F : FunD K "law" "law" (defArgs s_law) (defBody s_law) (defScope s_law) [] [] fa fd) {f_rows : Addr} {fd_rows : FuncData} (C_rows : FnC K mg "rows" f_rows fd_rows ["posts"]) {f_houses : Addr} {fd_houses : FuncData} (C_houses : FnC K mg "houses" f_houses fd_houses ["posts"]) {f_space : Addr} {fd_space : FuncData} (C_space : FnC K mg "space" f_space fd_space ["posts", "house"]) {f_middle : Addr} {fd_middle : FuncData} (C_middle : FnC K mg "middle" f_middle fd_middle ["posts"]) {f__law_draws : Addr} {fd__law_draws : FuncData} (C__law_draws : FnC K mg "_law_draws" f__law_draws fd__law_draws ["script"]) {f__law_mix : Addr} {fd__law_mix : FuncData} (C__law_mix : FnC K mg "_law_mix" f__law_mix fd__law_mix ["draws", "k", "many"]) {f__law_posts : Addr} {fd__law_posts : FuncData} (C__law_posts : FnC K mg "_law_posts" f__law_posts fd__law_posts ["draws", "first"]) {f__law_is_house : Addr} {fd__law_is_house : FuncData} (C__law_is_house : FnC K mg "_law_is_house" f__law_is_house fd__law_is_house ["house"]) {f__law_houses : Addr} {fd__law_houses : FuncData} (C__law_houses : FnC K mg "_law_houses" f__law_houses fd__law_houses ["posts"]) {f__law_rows : Addr} {fd__law_rows : FuncData} (C__law_rows : FnC K mg "_law_rows" f__law_rows fd__law_rows ["posts"]) {f__law_word : Addr} {fd__law_word : FuncData} (C__law_word : FnC K mg "_law_word" f__law_word fd__law_word ["way", "posts"]) (G_rows : FnV P w K mg base 5 f_rows fd_rows ["posts"] (Rn1 N.rows)) (G_houses : FnV P w K mg base 5 f_houses fd_houses ["posts"] (Rn1 N.houses)) (G_space : FnV P w K mg base 5 f_space fd_space ["posts", "house"] (Rn2 N.space)) (G_middle : FnV P w K mg base 5 f_middle fd_middle ["posts"] (Rn1 N.middle)) (G__law_draws : FnV P w K mg base 2 f__law_draws fd__law_draws ["script"] (Rn1 N._law_draws)) (G__law_mix : FnV P w K mg base 2 f__law_mix fd__law_mix ["draws", "k", "many"] (Rn3 N._law_mix)) (G__law_posts : FnV P w K mg base 3 f__law_posts fd__law_posts ["draws", "first"] (Rn2 N._law_posts)) (G__law_is_house : FnV P w K mg base 2 f__law_is_house fd__law_is_house ["house"] (Rn1 N._law_is_house)) (G__law_houses : FnV P w K mg base 3 f__law_houses fd__law_houses ["posts"] (Rn1 N._law_houses)) (G__law_rows : FnV P w K mg base 2 f__law_rows fd__law_rows ["posts"] (Rn1 N._law_rows)) (G__law_word : FnV P w K mg base 6 f__law_word fd__law_word ["way", "posts"] (Rn2 N._law_word)) :
    FnV P w K mg base 7 fa fd ["script"] (Rn1 N.law) := by
  rw [← M.law_eq]
  refine fn1 F sc_law rfl (by decide) fun cdv A outer s H E gr script => ?_
  have tk : Takes (defX P w K mg base ["script", "draws", "posts", "kept", "told", "lists", "house", "one", "due", "a", "b", "c", "d", "first", "second", "post", "double", "x", "y", "both", "k", "way", "bad"] "law" (defScope s_law) fa cdv A outer s H E) (defW E) := takes_of rfl rfl rfl rfl
  have hp : PassesOwn (model (defX P w K mg base ["script", "draws", "posts", "kept", "told", "lists", "house", "one", "due", "a", "b", "c", "d", "first", "second", "post", "double", "x", "y", "both", "k", "way", "bad"] "law" (defScope s_law) fa cdv A outer s H E).prog (defX P w K mg base ["script", "draws", "posts", "kept", "told", "lists", "house", "one", "due", "a", "b", "c", "d", "first", "second", "post", "double", "x", "y", "both", "k", "way", "bad"] "law" (defScope s_law) fa cdv A outer s H E).w) (defX P w K mg base ["script", "draws", "posts", "kept", "told", "lists", "house", "one", "due", "a", "b", "c", "d", "first", "second", "post", "double", "x", "y", "both", "k", "way", "bad"] "law" (defScope s_law) fa cdv A outer s H E).A (defX P w K mg base ["script", "draws", "posts", "kept", "told", "lists", "house", "one", "due", "a", "b", "c", "d", "first", "second", "post", "double", "x", "y", "both", "k", "way", "bad"] "law" (defScope s_law) fa cdv A outer s H E).env (defX P w K mg base ["script", "draws", "posts", "kept", "told", "lists", "house", "one", "due", "a", "b", "c", "d", "first", "second", "post", "double", "x", "y", "both", "k", "way", "bad"] "law" (defScope s_law) fa cdv A outer s H E).xe := passes_of rfl
  have hN := sc_law.nd
  unfold M.law
  refine XB.asg 1 [] (fun draws => [(1, SV.sh (toD draws))]) hN ?ex ?_
  case ex => exact (XV.fn1 (G__law_draws.mono (by decide)) C__law_draws gr tk (XV.var 0 rfl))
  intro draws
  refine XB.asg 2 [0] (fun posts => [(2, SV.sh (toD posts)), (1, SV.sh (toD draws))]) hN ?ex ?_
  case ex => exact (XV.fn2 (G__law_posts.mono (by decide)) C__law_posts gr tk (XV.var 0 rfl) XV.int)
  intro posts
  refine XB.asg 3 [0, 1] (fun kept => [(3, SV.sh (toD kept)), (2, SV.sh (toD posts)), (1, SV.sh (toD draws))]) hN ?ex ?_
  case ex => exact (XV.callB (b_repr (α := (List (Int × Int))) gr) (by rfl) bi.b_repr (by rfl) (XV.w (XV.var 0 rfl)))
  intro kept
  refine XB.asg 4 [0, 1, 2] (fun told => [(4, SV.sh (toD told)), (3, SV.sh (toD kept)), (2, SV.sh (toD posts)), (1, SV.sh (toD draws))]) hN ?ex ?_
  case ex => exact (XV.fn1 (G__law_houses.mono (by decide)) C__law_houses gr tk (XV.var 1 rfl))
  intro told
  refine XB.ifR ?tst ?_ ?_ (by intro t h ρ2 h2; cases h2)
  case tst => exact (XT.pw (XT.or (XT.cmp c_neR (XV.w (XV.callB (b_repr (α := (List (List (Int × Int)))) gr) (by rfl) bi.b_repr (by rfl) (XV.w (XV.fn1 (G_rows.mono (by decide)) C_rows gr tk (XV.var 2 rfl))))) (XV.w (XV.callB (b_repr (α := (List (List (Int × Int)))) gr) (by rfl) bi.b_repr (by rfl) (XV.w (XV.fn1 (G__law_rows.mono (by decide)) C__law_rows gr tk (XV.var 2 rfl)))))) (XT.or1 (XT.cmp c_neR (XV.w (XV.callB (b_repr (α := (List (List (Int × Int)))) gr) (by rfl) bi.b_repr (by rfl) (XV.w (XV.fn1 (G_houses.mono (by decide)) C_houses gr tk (XV.var 2 rfl))))) (XV.w (XV.callB (b_repr (α := (List (List (Int × Int)))) gr) (by rfl) bi.b_repr (by rfl) (XV.w (XV.var 0 rfl))))))))
  · skip
    exact XB.ret XV.bool
  · skip
    refine XB.asg 5 [0, 1, 2, 3] (fun lists => [(5, SV.sh (toD lists)), (4, SV.sh (toD told)), (3, SV.sh (toD kept)), (2, SV.sh (toD posts)), (1, SV.sh (toD draws))]) hN ?ex ?_
    case ex => exact (XF.v (XF.cat (XF.w (XF.slice (XV.w (XV.var 0 rfl)) XO.none (XO.some XV.int))) (XF.w (XF.lstN (XL.cons (XF.v (XF.slice (XV.w (XV.var 2 rfl)) XO.none (XO.some XV.int))) (XL.cons (XF.v (XF.slice (XV.w (XV.var 2 rfl)) XO.none (XO.some XV.int))) (XL.cons (XF.v (XF.rev (XF.w (XF.slice (XV.w (XV.var 2 rfl)) XO.none (XO.some XV.int))))) (XL.cons (XF.v (XF.rep (XF.w (XF.lst1 (XV.tup2 XV.int XV.int))) XV.int)) (XL.cons (XF.v XF.lst0) XL.nil))))) (ll_fin (ll_cons (ll_cons (ll_cons (ll_cons (ll_cons ll_nil))))))))))
    intro lists
    refine XB.forS (fun (σ23 : (List (List (Int × Int)))) => [(5, SV.sh (toD σ23)), (3, SV.sh (toD kept)), (2, SV.sh (toD posts)), (1, SV.sh (toD draws))]) (fun (σ23 : (List (List (Int × Int)))) (ξ24 : (List (Int × Int))) => [(6, SV.sh (toD ξ24)), (5, SV.sh (toD σ23)), (3, SV.sh (toD kept)), (2, SV.sh (toD posts)), (1, SV.sh (toD draws))]) hp rfl (XI.list (XF.v (XF.slice (XV.w (XV.var 1 rfl)) XO.none (XO.some XV.int)))) (fun σ23 ξ24 => (XG.name 6 [0, 1, 2, 3] hN)) ?_ (wk [0, 2, 3, 4]) ?_
    · intro σ23 ξ24
      refine XB.asg 5 [2, 3, 4] (fun lists => [(5, SV.sh (toD lists)), (3, SV.sh (toD kept)), (2, SV.sh (toD posts)), (1, SV.sh (toD draws))]) hN ?ex ?_
      case ex => exact (XF.v (XF.cat (XV.w (XV.var 1 rfl)) (XF.w (XF.lst3 (XF.v (XF.rev (XV.w (XV.var 0 rfl)))) (XF.v (XF.cat (XF.w (XF.slice (XV.w (XV.var 0 rfl)) XO.none (XO.some XV.int))) (XF.w (XF.lst1 (XV.tup2 (XV.bin o_add (XV.item (k := 0) (fun a : (Int × Int) => a.1) (fun _ => ⟨_, rfl, rfl⟩) (XV.w (XV.idx (XV.w (XV.var 0 rfl)) XV.int))) XV.int) (XV.item (k := 1) (fun a : (Int × Int) => a.2) (fun _ => ⟨_, rfl, rfl⟩) (XV.w (XV.idx (XV.w (XV.var 0 rfl)) XV.int)))))))) (XF.v (XF.cat (XF.w (XF.slice (XV.w (XV.var 0 rfl)) XO.none (XO.some XV.int))) (XF.w (XF.lst2 (XV.idx (XV.w (XV.var 0 rfl)) XV.int) (XV.idx (XV.w (XV.var 0 rfl)) XV.int)))))))))
      intro lists
      exact XB.nilT (t := lists) rfl (wk [0, 1, 2, 3])
    intro σ50
    refine XB.forC (ω := fun o => .rt (toD (o : Bool))) (fun o => o) (fun (σ51 : Unit) => [(3, SV.sh (toD kept)), (2, SV.sh (toD posts)), (1, SV.sh (toD draws))]) (fun (σ51 : Unit) (ξ52 : (List (Int × Int))) => [(7, SV.sh (toD ξ52)), (3, SV.sh (toD kept)), (2, SV.sh (toD posts)), (1, SV.sh (toD draws))]) hp rfl (fun _ => rfl) (fun _ _ h => by cases h) (fun _ _ h => by cases h) (XI.list (XV.var 0 rfl)) (fun σ51 ξ52 => (XG.name 7 [0, 1, 2] hN)) ?_ (wk [1, 2, 3]) ?_
    · intro σ51 ξ52
      refine XB.asg 8 [0, 1, 2, 3] (fun due => [(8, SV.sh (toD due)), (7, SV.sh (toD ξ52)), (3, SV.sh (toD kept)), (2, SV.sh (toD posts)), (1, SV.sh (toD draws))]) hN ?ex ?_
      case ex => exact XV.noneC
      intro due
      refine XB.ifN (fun (σ79 : (Option Int)) => [(8, SV.sh (toD σ79)), (7, SV.sh (toD ξ52)), (3, SV.sh (toD kept)), (2, SV.sh (toD posts)), (1, SV.sh (toD draws))]) ?tst ?_ ?_ ?_
      case tst => exact (XT.pw (XT.and (XT.cmp (c_eq (α := Int) gr.r) (XV.w (XV.callB b_len (by rfl) bi.b_len (by rfl) (XF.w (XF.lc [("post", 15)] [0, 1, 2, 3, 4] [(8, SV.sh (toD due)), (7, SV.sh (toD ξ52)), (3, SV.sh (toD kept)), (2, SV.sh (toD posts)), (1, SV.sh (toD draws))] (fun ξ55 => [(15, SV.sh (toD ξ55)), (8, SV.sh (toD due)), (7, SV.sh (toD ξ52)), (3, SV.sh (toD kept)), (2, SV.sh (toD posts)), (1, SV.sh (toD draws))]) rfl hN (XI.list (XV.var 1 rfl)) (by rfl) (fun ξ55 _ _ _ _ _ => (XG.name 15 [0, 1, 2, 3, 4] hN)) (fun ξ55 _ _ _ _ _ => (XTs.one (XT.cmp (c_notinB (α := (Int × Int)) gr.r) (XV.w (XV.var 0 rfl)) (XV.w (XV.var 4 rfl))))) (fun ξ55 _ _ _ _ _ => (XV.var 0 rfl)))))) (XV.w XV.int)) (XT.and1 (XT.val (XV.fn1 (G__law_is_house.mono (by decide)) C__law_is_house gr tk (XV.var 1 rfl))))))
      · skip
        refine XB.asgT [9, 10, 11, 12] (fun π61 => [(12, SV.sh (toD π61.d)), (11, SV.sh (toD π61.c)), (10, SV.sh (toD π61.b)), (9, SV.sh (toD π61.a)), (7, SV.sh (toD ξ52)), (3, SV.sh (toD kept)), (2, SV.sh (toD posts)), (1, SV.sh (toD draws))]) hN ?ex (fun π61 => XG.weak (ρ0 := [(7, SV.sh (toD ξ52)), (3, SV.sh (toD kept)), (2, SV.sh (toD posts)), (1, SV.sh (toD draws))]) ((XG.lst rfl (XGs.cons (ρ1 := [(9, SV.sh (toD π61.a)), (7, SV.sh (toD ξ52)), (3, SV.sh (toD kept)), (2, SV.sh (toD posts)), (1, SV.sh (toD draws))]) (XG.name 9 [0, 1, 2, 3] hN) (XGs.cons (ρ1 := [(10, SV.sh (toD π61.b)), (9, SV.sh (toD π61.a)), (7, SV.sh (toD ξ52)), (3, SV.sh (toD kept)), (2, SV.sh (toD posts)), (1, SV.sh (toD draws))]) (XG.name 10 [0, 1, 2, 3, 4] hN) (XGs.cons (ρ1 := [(11, SV.sh (toD π61.c)), (10, SV.sh (toD π61.b)), (9, SV.sh (toD π61.a)), (7, SV.sh (toD ξ52)), (3, SV.sh (toD kept)), (2, SV.sh (toD posts)), (1, SV.sh (toD draws))]) (XG.name 11 [0, 1, 2, 3, 4, 5] hN) (XGs.cons (ρ1 := [(12, SV.sh (toD π61.d)), (11, SV.sh (toD π61.c)), (10, SV.sh (toD π61.b)), (9, SV.sh (toD π61.a)), (7, SV.sh (toD ξ52)), (3, SV.sh (toD kept)), (2, SV.sh (toD posts)), (1, SV.sh (toD draws))]) (XG.name 12 [0, 1, 2, 3, 4, 5, 6] hN) XGs.nil)))))) (wk [1, 2, 3, 4])) ?_
        case ex => exact (XV.unL4 (XV.var 1 rfl))
        intro π61
        refine XB.asg 13 [1, 3, 4, 5, 6, 7] (fun first => [(13, SV.sh (toD first)), (11, SV.sh (toD π61.c)), (9, SV.sh (toD π61.a)), (7, SV.sh (toD ξ52)), (3, SV.sh (toD kept)), (2, SV.sh (toD posts)), (1, SV.sh (toD draws))]) hN ?ex ?_
        case ex => exact (XV.bin o_add (XV.bin o_mul (XV.bin o_sub (XV.item (k := 0) (fun a : (Int × Int) => a.1) (fun _ => ⟨_, rfl, rfl⟩) (XV.w (XV.var 2 rfl))) (XV.item (k := 0) (fun a : (Int × Int) => a.1) (fun _ => ⟨_, rfl, rfl⟩) (XV.w (XV.var 3 rfl)))) (XV.bin o_sub (XV.item (k := 0) (fun a : (Int × Int) => a.1) (fun _ => ⟨_, rfl, rfl⟩) (XV.w (XV.var 2 rfl))) (XV.item (k := 0) (fun a : (Int × Int) => a.1) (fun _ => ⟨_, rfl, rfl⟩) (XV.w (XV.var 3 rfl))))) (XV.bin o_mul (XV.bin o_sub (XV.item (k := 1) (fun a : (Int × Int) => a.2) (fun _ => ⟨_, rfl, rfl⟩) (XV.w (XV.var 2 rfl))) (XV.item (k := 1) (fun a : (Int × Int) => a.2) (fun _ => ⟨_, rfl, rfl⟩) (XV.w (XV.var 3 rfl)))) (XV.bin o_sub (XV.item (k := 1) (fun a : (Int × Int) => a.2) (fun _ => ⟨_, rfl, rfl⟩) (XV.w (XV.var 2 rfl))) (XV.item (k := 1) (fun a : (Int × Int) => a.2) (fun _ => ⟨_, rfl, rfl⟩) (XV.w (XV.var 3 rfl))))))
        intro first
        refine XB.asg 14 [0, 3, 4, 5, 6] (fun second => [(14, SV.sh (toD second)), (13, SV.sh (toD first)), (7, SV.sh (toD ξ52)), (3, SV.sh (toD kept)), (2, SV.sh (toD posts)), (1, SV.sh (toD draws))]) hN ?ex ?_
        case ex => exact (XV.bin o_add (XV.bin o_mul (XV.bin o_sub (XV.item (k := 0) (fun a : (Int × Int) => a.1) (fun _ => ⟨_, rfl, rfl⟩) (XV.w (XV.var 1 rfl))) (XV.item (k := 0) (fun a : (Int × Int) => a.1) (fun _ => ⟨_, rfl, rfl⟩) (XV.w (XV.var 2 rfl)))) (XV.bin o_sub (XV.item (k := 0) (fun a : (Int × Int) => a.1) (fun _ => ⟨_, rfl, rfl⟩) (XV.w (XV.var 1 rfl))) (XV.item (k := 0) (fun a : (Int × Int) => a.1) (fun _ => ⟨_, rfl, rfl⟩) (XV.w (XV.var 2 rfl))))) (XV.bin o_mul (XV.bin o_sub (XV.item (k := 1) (fun a : (Int × Int) => a.2) (fun _ => ⟨_, rfl, rfl⟩) (XV.w (XV.var 1 rfl))) (XV.item (k := 1) (fun a : (Int × Int) => a.2) (fun _ => ⟨_, rfl, rfl⟩) (XV.w (XV.var 2 rfl)))) (XV.bin o_sub (XV.item (k := 1) (fun a : (Int × Int) => a.2) (fun _ => ⟨_, rfl, rfl⟩) (XV.w (XV.var 1 rfl))) (XV.item (k := 1) (fun a : (Int × Int) => a.2) (fun _ => ⟨_, rfl, rfl⟩) (XV.w (XV.var 2 rfl))))))
        intro second
        refine XB.asg 8 [0, 1, 2, 3, 4, 5] (fun due => [(8, SV.sh (toD due)), (14, SV.sh (toD second)), (13, SV.sh (toD first)), (7, SV.sh (toD ξ52)), (3, SV.sh (toD kept)), (2, SV.sh (toD posts)), (1, SV.sh (toD draws))]) hN ?ex ?_
        case ex => exact (XV.someC XV.int)
        intro due
        refine XB.whileS (fun (σ68 : (Option Int)) => [(8, SV.sh (toD σ68)), (14, SV.sh (toD second)), (13, SV.sh (toD first)), (7, SV.sh (toD ξ52)), (3, SV.sh (toD kept)), (2, SV.sh (toD posts)), (1, SV.sh (toD draws))]) hp (fun σ68 => (XT.cmp c_lt (XV.w (XV.bin o_mul (XV.unO (XV.var 0 rfl)) (XV.unO (XV.var 0 rfl)))) (XV.w (XV.bin o_mul (XV.var 2 rfl) (XV.var 1 rfl))))) ?_ (wk [0, 1, 2, 3, 4, 5, 6]) ?_
        · intro σ68
          refine XB.asg 8 [1, 2, 3, 4, 5, 6] (fun due => [(8, SV.sh (toD due)), (14, SV.sh (toD second)), (13, SV.sh (toD first)), (7, SV.sh (toD ξ52)), (3, SV.sh (toD kept)), (2, SV.sh (toD posts)), (1, SV.sh (toD draws))]) hN ?ex ?_
          case ex => exact (XV.someC (XV.bin o_add (XV.unO (XV.var 0 rfl)) XV.int))
          intro due
          exact XB.nilT (t := due) rfl (wk [0, 1, 2, 3, 4, 5, 6])
        intro σ78
        exact XB.nilT (t := σ78) rfl (wk [0, 3, 4, 5, 6])
      · skip
        exact XB.nilT (t := due) rfl (wk [0, 1, 2, 3, 4])
      intro σ79
      refine XB.ifE (ω := fun o => .rt (toD o)) (fun o => Ctl.ex o) (fun _ => rfl) (fun _ _ h => by cases h) ?tst ?_ ?_
      case tst => exact (XT.cmp c_neR (XV.w (XV.callB (b_repr (α := (Option Int)) gr) (by rfl) bi.b_repr (by rfl) (XV.w (XV.fn2 (G_space.mono (by decide)) C_space gr tk (XV.var 3 rfl) (XV.var 1 rfl))))) (XV.w (XV.callB (b_repr (α := (Option Int)) gr) (by rfl) bi.b_repr (by rfl) (XV.w (XV.var 0 rfl)))))
      · skip
        exact XB.ret XV.bool
      · skip
        exact XB.nilT (t := Ctl.nx ()) rfl (wk [2, 3, 4])
    intro σ86
    refine XB.asg 16 [0, 1, 2] (fun double => [(16, SV.sh (toD double)), (3, SV.sh (toD kept)), (2, SV.sh (toD posts)), (1, SV.sh (toD draws))]) hN ?ex ?_
    case ex => exact (XV.tup2 (XV.bin o_add (XV.item (k := 0) (fun a : (Int × Int) => a.1) (fun _ => ⟨_, rfl, rfl⟩) (XV.w (XV.idx (XV.w (XV.var 1 rfl)) XV.int))) (XV.item (k := 0) (fun a : (Int × Int) => a.1) (fun _ => ⟨_, rfl, rfl⟩) (XV.w (XV.idx (XV.w (XV.var 1 rfl)) (XV.neg XV.int))))) (XV.bin o_add (XV.item (k := 1) (fun a : (Int × Int) => a.2) (fun _ => ⟨_, rfl, rfl⟩) (XV.w (XV.idx (XV.w (XV.var 1 rfl)) XV.int))) (XV.item (k := 1) (fun a : (Int × Int) => a.2) (fun _ => ⟨_, rfl, rfl⟩) (XV.w (XV.idx (XV.w (XV.var 1 rfl)) (XV.neg XV.int))))))
    intro double
    refine XB.asg 8 [0, 1, 2, 3] (fun due => [(8, SV.sh (toD due)), (16, SV.sh (toD double)), (3, SV.sh (toD kept)), (2, SV.sh (toD posts)), (1, SV.sh (toD draws))]) hN ?ex ?_
    case ex => exact XV.noneC
    intro due
    refine XB.ifN (fun (σ99 : (Option (Int × Int))) => [(8, SV.sh (toD σ99)), (3, SV.sh (toD kept)), (2, SV.sh (toD posts)), (1, SV.sh (toD draws))]) ?tst ?_ ?_ ?_
    case tst => exact (XT.cmp (c_eq (α := (List (Int × Int))) gr.r) (XF.w (XF.callB (b_sorted (α := (Int × Int)) gr.r.units) (by rfl) bi.b_sorted (by rfl) (XF.w (XF.lc [("x", 17), ("y", 18)] [0, 1, 2, 3, 4] [(8, SV.sh (toD due)), (16, SV.sh (toD double)), (3, SV.sh (toD kept)), (2, SV.sh (toD posts)), (1, SV.sh (toD draws))] (fun ξ96 => [(18, SV.sh (toD ξ96.2)), (17, SV.sh (toD ξ96.1)), (8, SV.sh (toD due)), (16, SV.sh (toD double)), (3, SV.sh (toD kept)), (2, SV.sh (toD posts)), (1, SV.sh (toD draws))]) rfl hN (XI.list (XV.var 3 rfl)) (by rfl) (fun ξ96 _ _ _ _ _ => (XG.tup rfl (XGs.cons (ρ1 := [(17, SV.sh (toD ξ96.1)), (8, SV.sh (toD due)), (16, SV.sh (toD double)), (3, SV.sh (toD kept)), (2, SV.sh (toD posts)), (1, SV.sh (toD draws))]) (XG.name 17 [0, 1, 2, 3, 4] hN) (XGs.cons (ρ1 := [(18, SV.sh (toD ξ96.2)), (17, SV.sh (toD ξ96.1)), (8, SV.sh (toD due)), (16, SV.sh (toD double)), (3, SV.sh (toD kept)), (2, SV.sh (toD posts)), (1, SV.sh (toD draws))]) (XG.name 18 [0, 1, 2, 3, 4, 5] hN) XGs.nil)))) (fun ξ96 _ _ _ _ _ => XTs.nil) (fun ξ96 _ _ _ _ _ => (XV.tup2 (XV.bin o_sub (XV.item (k := 0) (fun a : (Int × Int) => a.1) (fun _ => ⟨_, rfl, rfl⟩) (XV.w (XV.var 3 rfl))) (XV.var 1 rfl)) (XV.bin o_sub (XV.item (k := 1) (fun a : (Int × Int) => a.2) (fun _ => ⟨_, rfl, rfl⟩) (XV.w (XV.var 3 rfl))) (XV.var 0 rfl)))))))) (XV.w (XV.var 3 rfl)))
    · skip
      refine XB.asg 8 [2, 3, 4] (fun due => [(8, SV.sh (toD due)), (3, SV.sh (toD kept)), (2, SV.sh (toD posts)), (1, SV.sh (toD draws))]) hN ?ex ?_
      case ex => exact (XV.someC (XV.var 1 rfl))
      intro due
      exact XB.nilT (t := due) rfl (wk [0, 1, 2, 3])
    · skip
      exact XB.nilT (t := due) rfl (wk [0, 2, 3, 4])
    intro σ99
    refine XB.ifR ?tst ?_ ?_ (by intro t h ρ2 h2; cases h2)
    case tst => exact (XT.cmp c_neR (XV.w (XV.callB (b_repr (α := (Option (Int × Int))) gr) (by rfl) bi.b_repr (by rfl) (XV.w (XV.fn1 (G_middle.mono (by decide)) C_middle gr tk (XV.var 2 rfl))))) (XV.w (XV.callB (b_repr (α := (Option (Int × Int))) gr) (by rfl) bi.b_repr (by rfl) (XV.w (XV.var 0 rfl)))))
    · skip
      exact XB.ret XV.bool
    · skip
      refine XB.asg 19 [1, 2, 3] (fun both => [(19, SV.sh (toD both)), (3, SV.sh (toD kept)), (2, SV.sh (toD posts)), (1, SV.sh (toD draws))]) hN ?ex ?_
      case ex => exact (XF.v (XF.sortedT rfl gr.r.units bi.b_sorted (XUT.set rfl gr.r.units bi.b_set (XF.w (XF.cat (XF.w (XF.lc [("x", 17), ("y", 18)] [0, 1, 2, 3] [(8, SV.sh (toD σ99)), (3, SV.sh (toD kept)), (2, SV.sh (toD posts)), (1, SV.sh (toD draws))] (fun ξ106 => [(18, SV.sh (toD ξ106.2)), (17, SV.sh (toD ξ106.1)), (8, SV.sh (toD σ99)), (3, SV.sh (toD kept)), (2, SV.sh (toD posts)), (1, SV.sh (toD draws))]) rfl hN (XI.list (XF.v (XF.slice (XV.w (XV.var 2 rfl)) XO.none (XO.some XV.int)))) (by rfl) (fun ξ106 _ _ _ _ _ => (XG.tup rfl (XGs.cons (ρ1 := [(17, SV.sh (toD ξ106.1)), (8, SV.sh (toD σ99)), (3, SV.sh (toD kept)), (2, SV.sh (toD posts)), (1, SV.sh (toD draws))]) (XG.name 17 [0, 1, 2, 3] hN) (XGs.cons (ρ1 := [(18, SV.sh (toD ξ106.2)), (17, SV.sh (toD ξ106.1)), (8, SV.sh (toD σ99)), (3, SV.sh (toD kept)), (2, SV.sh (toD posts)), (1, SV.sh (toD draws))]) (XG.name 18 [0, 1, 2, 3, 4] hN) XGs.nil)))) (fun ξ106 _ _ _ _ _ => XTs.nil) (fun ξ106 _ _ _ _ _ => (XV.tup2 (XV.var 1 rfl) (XV.var 0 rfl))))) (XF.w (XF.lc [("x", 17), ("y", 18)] [0, 1, 2, 3] [(8, SV.sh (toD σ99)), (3, SV.sh (toD kept)), (2, SV.sh (toD posts)), (1, SV.sh (toD draws))] (fun ξ108 => [(18, SV.sh (toD ξ108.2)), (17, SV.sh (toD ξ108.1)), (8, SV.sh (toD σ99)), (3, SV.sh (toD kept)), (2, SV.sh (toD posts)), (1, SV.sh (toD draws))]) rfl hN (XI.list (XF.v (XF.slice (XV.w (XV.var 2 rfl)) XO.none (XO.some XV.int)))) (by rfl) (fun ξ108 _ _ _ _ _ => (XG.tup rfl (XGs.cons (ρ1 := [(17, SV.sh (toD ξ108.1)), (8, SV.sh (toD σ99)), (3, SV.sh (toD kept)), (2, SV.sh (toD posts)), (1, SV.sh (toD draws))]) (XG.name 17 [0, 1, 2, 3] hN) (XGs.cons (ρ1 := [(18, SV.sh (toD ξ108.2)), (17, SV.sh (toD ξ108.1)), (8, SV.sh (toD σ99)), (3, SV.sh (toD kept)), (2, SV.sh (toD posts)), (1, SV.sh (toD draws))]) (XG.name 18 [0, 1, 2, 3, 4] hN) XGs.nil)))) (fun ξ108 _ _ _ _ _ => XTs.nil) (fun ξ108 _ _ _ _ _ => (XV.tup2 (XV.bin o_sub XV.int (XV.var 1 rfl)) (XV.bin o_sub XV.int (XV.var 0 rfl)))))))))))
      intro both
      refine XB.ifR ?tst ?_ ?_ (by intro t h ρ2 h2; cases h2)
      case tst => exact (XT.cmp (c_ne (α := (Option (Int × Int))) gr.r) (XV.w (XV.fn1 (G_middle.mono (by decide)) C_middle gr tk (XV.var 0 rfl))) (XV.w (XV.someC (XV.tup2 XV.int XV.int))))
      · skip
        exact XB.ret XV.bool
      · skip
        refine XB.asg 20 [1, 2] (fun k' => [(20, SV.sh (toD k')), (3, SV.sh (toD kept)), (2, SV.sh (toD posts))]) hN ?ex ?_
        case ex => exact (XV.fn3 (G__law_mix.mono (by decide)) C__law_mix gr tk (XV.var 3 rfl) XV.int (XV.callB b_len (by rfl) bi.b_len (by rfl) (XV.w (XV.var 2 rfl))))
        intro k'
        refine XB.forC (ω := fun o => .rt (toD (o : Bool))) (fun o => o) (fun (σ117 : Unit) => [(20, SV.sh (toD k')), (3, SV.sh (toD kept)), (2, SV.sh (toD posts))]) (fun (σ117 : Unit) (ξ118 : Int) => [(21, SV.sh (toD ξ118)), (20, SV.sh (toD k')), (3, SV.sh (toD kept)), (2, SV.sh (toD posts))]) hp rfl (fun _ => rfl) (fun _ _ h => by cases h) (fun _ _ h => by cases h) (XI.range1 bi.b_range XV.int) (fun σ117 ξ118 => (XG.name 21 [0, 1, 2] hN)) ?_ (wk [0, 1, 2]) ?_
        · intro σ117 ξ118
          refine XB.ifE (ω := fun o => .rt (toD o)) (fun o => Ctl.ex o) (fun _ => rfl) (fun _ _ h => by cases h) ?tst ?_ ?_
          case tst => exact (XT.pw (XT.or (XT.cmp (c_ne (α := (PStr × Int)) gr.r) (XV.w (XV.fn2 (G__law_word.mono (by decide)) C__law_word gr tk (XV.var 0 rfl) (XF.v XF.lst0))) (XV.w (XV.tup2 (XV.str (x := ps "size")) XV.int))) (XT.or (XT.cmp (c_ne (α := (PStr × Int)) gr.r) (XV.w (XV.fn2 (G__law_word.mono (by decide)) C__law_word gr tk (XV.var 0 rfl) (XF.v (XF.rep (XF.w (XF.lst1 (XV.tup2 XV.int XV.int))) XV.int)))) (XV.w (XV.tup2 (XV.str (x := ps "size")) XV.int))) (XT.or1 (XT.pw (XT.and (XT.cmp c_lt (XV.w (XV.callB b_len (by rfl) bi.b_len (by rfl) (XV.w (XV.var 3 rfl)))) (XV.w XV.int)) (XT.and1 (XT.cmp (c_ne (α := (PStr × Int)) gr.r) (XV.w (XV.fn2 (G__law_word.mono (by decide)) C__law_word gr tk (XV.var 0 rfl) (XF.v (XF.cat (XV.w (XV.var 3 rfl)) (XF.w (XF.slice (XV.w (XV.var 3 rfl)) (XO.some (XV.neg XV.int)) XO.none)))))) (XV.w (XV.tup2 (XV.str (x := ps "post")) (XV.callB b_len (by rfl) bi.b_len (by rfl) (XV.w (XV.var 3 rfl)))))))))))))
          · skip
            exact XB.ret XV.bool
          · skip
            refine XB.forC (ω := fun o => .rt (toD (o : Bool))) (fun o => Ctl.ex o) (fun (σ132 : Unit) => [(21, SV.sh (toD ξ118)), (20, SV.sh (toD k')), (3, SV.sh (toD kept)), (2, SV.sh (toD posts))]) (fun (σ132 : Unit) (ξ133 : (Int × Int)) => [(22, SV.sh (toD ξ133)), (21, SV.sh (toD ξ118)), (20, SV.sh (toD k')), (3, SV.sh (toD kept)), (2, SV.sh (toD posts))]) hp rfl (fun _ => rfl) (fun _ _ h => by cases h) (fun _ _ h => by cases h) (XI.list (XF.v (XF.lst3 (XV.tup2 XV.int XV.int) (XV.tup2 XV.int (XV.neg XV.int)) (XV.tup2 XV.int XV.int)))) (fun σ132 ξ133 => (XG.name 22 [0, 1, 2, 3] hN)) ?_ (wk [0, 1, 2, 3]) ?_
            · intro σ132 ξ133
              refine XB.ifE (ω := fun o => .rt (toD o)) (fun o => Ctl.ex o) (fun _ => rfl) (fun _ _ h => by cases h) ?tst ?_ ?_
              case tst => exact (XT.cmp (c_ne (α := (PStr × Int)) gr.r) (XV.w (XV.fn2 (G__law_word.mono (by decide)) C__law_word gr tk (XV.var 1 rfl) (XF.v (XF.cat (XF.w (XF.cat (XF.w (XF.slice (XV.w (XV.var 4 rfl)) XO.none (XO.some (XV.var 2 rfl)))) (XF.w (XF.lst1 (XV.var 0 rfl))))) (XF.w (XF.slice (XV.w (XV.var 4 rfl)) (XO.some (XV.bin o_add (XV.var 2 rfl) XV.int)) XO.none)))))) (XV.w (XV.tup2 (XV.str (x := ps "post")) (XV.var 2 rfl))))
              · skip
                exact XB.ret XV.bool
              · skip
                exact XB.nilT (t := Ctl.nx ()) rfl (wk [1, 2, 3, 4])
            intro σ140
            exact XB.nilT (t := Ctl.nx ()) rfl (wk [1, 2, 3])
        intro σ142
        exact XB.ret (XV.cmp c_eqR (XV.w (XV.callB (b_repr (α := (List (Int × Int))) gr) (by rfl) bi.b_repr (by rfl) (XV.w (XV.var 2 rfl)))) (XV.w (XV.var 1 rfl)))
end Law
end
section
set_option Elab.async false
set_option linter.all false
set_option maxRecDepth 100000
set_option maxHeartbeats 0
namespace Law
open Vs.Enc (toD)
section head
open PySem PySem.Spec PyProof.Rows L2 Vs
def d_check_posts : He.DefD := ⟨("check_posts", none), "check_posts", "check_posts", defArgs s_check_posts, defBody s_check_posts, defScope s_check_posts, [], []⟩
def d_moved : He.DefD := ⟨("moved", none), "moved", "moved", defArgs s_moved, defBody s_moved, defScope s_moved, [], []⟩
def d_between : He.DefD := ⟨("between", none), "between", "between", defArgs s_between, defBody s_between, defScope s_between, [], []⟩
def d_row_from : He.DefD := ⟨("row_from", none), "row_from", "row_from", defArgs s_row_from, defBody s_row_from, defScope s_row_from, [], []⟩
def d_rows : He.DefD := ⟨("rows", none), "rows", "rows", defArgs s_rows, defBody s_rows, defScope s_rows, [], []⟩
def d_dot : He.DefD := ⟨("dot", none), "dot", "dot", defArgs s_dot, defBody s_dot, defScope s_dot, [], []⟩
def d_is_house : He.DefD := ⟨("is_house", none), "is_house", "is_house", defArgs s_is_house, defBody s_is_house, defScope s_is_house, [], []⟩
def d_houses_of : He.DefD := ⟨("houses_of", none), "houses_of", "houses_of", defArgs s_houses_of, defBody s_houses_of, defScope s_houses_of, [], []⟩
def d_houses : He.DefD := ⟨("houses", none), "houses", "houses", defArgs s_houses, defBody s_houses, defScope s_houses, [], []⟩
def d_space : He.DefD := ⟨("space", none), "space", "space", defArgs s_space, defBody s_space, defScope s_space, [], []⟩
def d_middle : He.DefD := ⟨("middle", none), "middle", "middle", defArgs s_middle, defBody s_middle, defScope s_middle, [], []⟩
def d__law_draws : He.DefD := ⟨("_law_draws", none), "_law_draws", "_law_draws", defArgs s__law_draws, defBody s__law_draws, defScope s__law_draws, [], []⟩
def d__law_mix : He.DefD := ⟨("_law_mix", none), "_law_mix", "_law_mix", defArgs s__law_mix, defBody s__law_mix, defScope s__law_mix, [], []⟩
def d__law_posts : He.DefD := ⟨("_law_posts", none), "_law_posts", "_law_posts", defArgs s__law_posts, defBody s__law_posts, defScope s__law_posts, [], []⟩
def d__law_is_house : He.DefD := ⟨("_law_is_house", none), "_law_is_house", "_law_is_house", defArgs s__law_is_house, defBody s__law_is_house, defScope s__law_is_house, [], []⟩
def d__law_houses : He.DefD := ⟨("_law_houses", none), "_law_houses", "_law_houses", defArgs s__law_houses, defBody s__law_houses, defScope s__law_houses, [], []⟩
def d__law_rows : He.DefD := ⟨("_law_rows", none), "_law_rows", "_law_rows", defArgs s__law_rows, defBody s__law_rows, defScope s__law_rows, [], []⟩
def d__law_word : He.DefD := ⟨("_law_word", none), "_law_word", "_law_word", defArgs s__law_word, defBody s__law_word, defScope s__law_word, [], []⟩
def d_law : He.DefD := ⟨("law", none), "law", "law", defArgs s_law, defBody s_law, defScope s_law, [], []⟩
def fn : List He.DefD := [d_check_posts, d_moved, d_between, d_row_from, d_rows, d_dot, d_is_house, d_houses_of, d_houses, d_space, d_middle, d__law_draws, d__law_mix, d__law_posts, d__law_is_house, d__law_houses, d__law_rows, d__law_word, d_law]
def fa : List He.Fa := [.glo "check_posts", .glo "moved", .glo "between", .glo "row_from", .glo "rows", .glo "dot", .glo "is_house", .glo "houses_of", .glo "houses", .glo "space", .glo "middle", .glo "_law_draws", .glo "_law_mix", .glo "_law_posts", .glo "_law_is_house", .glo "_law_houses", .glo "_law_rows", .glo "_law_word", .glo "law", .int "MOST_POSTS" 12, .int "MOST_PLACE" 60, .int "LEAST_ROW" 3, .free "abs", .free "all", .free "enumerate", .free "int", .free "len", .free "list", .free "min", .free "range", .free "repr", .free "set", .free "sorted", .free "zip", .exm "WrongSize" "WrongSize" true, .exm "WrongSize" "BadPost" false, .exm "BadPost" "WrongSize" false, .exm "BadPost" "BadPost" true]
def ex (K : PySem.W.Frag) : Bool := (kn.all fun c => digB PySem.Challenge.rw_dugtold_k76_whole_rows_and_houses_of_pos.prog.main.file K "DigError" c)
abbrev R : PySem.W.OpenRow := PySem.W.OpenLaw.row PySem.Challenge.rw_dugtold_k76_whole_rows_and_houses_of_pos
abbrev hk : PySem.W.Hook := hookY 5 fa fn ex
def ob (s : PySem.W.SharedT) : AlY := obsY 5 fa fn ex (HandSHeadRun.getT s)
theorem ob_eq (s : PySem.W.SharedT) : ob s = hk.obs s.abs := obsY_eq (HandSHeadRun.getT_eq s)
theorem run (w : World) : HandSHeadRun.RunEq R (PySem.W.view R.prog [27]) hk ob 4000 ["DigError", "WrongSize", "BadPost", "MOST_POSTS", "MOST_PLACE", "LEAST_ROW", "check_posts", "moved", "between", "row_from", "rows", "dot", "is_house", "houses_of", "houses", "space", "middle", "_law_draws", "_law_mix", "_law_posts", "_law_is_house", "_law_houses", "_law_rows", "_law_word"] w := by
  intro os
  kernel_rfl
theorem facts {P : Program} {w : World} {K : PySem.W.Frag} {h : Heap} {mg : Str → Option Value} {f : Addr} (hP : P.main.file = PySem.Challenge.rw_dugtold_k76_whole_rows_and_houses_of_pos.prog.main.file) (hT : (P.main.scope.names.lookup ("super" : Str)).isSome = false) (X : K.In h) (G : h.Ns mainGlobals mg) (hfa : mg ("law" : Str) = some (.ref f)) (cx : SaysY fa fn ex w K) :
    ∃ fd : FuncData, (∀ (s : Shared) (v : Value), BindsTo s fd ⟨[v], []⟩ [("script", v)]) ∧ ∀ base : Heap, K.In base → base.Ns mainGlobals mg → FnV P w K mg base 7 f fd ["script"] (Rn1 N.law) := by
  have c := cx.t.d
  have exm : Exm K kn := by
    intro a ha b hb
    simp only [kn, List.mem_cons, List.not_mem_nil, or_false] at ha hb
    rcases ha with rfl | rfl <;> rcases hb with rfl | rfl
    · exact of_decide_eq_true (c.fact 34 (f := .exm "WrongSize" "WrongSize" true) rfl)
    · exact of_decide_eq_true (c.fact 35 (f := .exm "WrongSize" "BadPost" false) rfl)
    · exact of_decide_eq_true (c.fact 36 (f := .exm "BadPost" "WrongSize" false) rfl)
    · exact of_decide_eq_true (c.fact 37 (f := .exm "BadPost" "BadPost" true) rfl)
  have dig : ∀ c ∈ kn, DigT P K mg c := fun x hx => digB_ok X G (D := "DigError") (by rw [hP]; exact List.all_eq_true.mp cx.more x hx) hT
  have bi : Bi P K mg := ⟨He.free_ok X G (c.fact 22 (f := .free "abs") rfl), He.free_ok X G (c.fact 23 (f := .free "all") rfl), He.free_ok X G (c.fact 24 (f := .free "enumerate") rfl), He.free_ok X G (c.fact 25 (f := .free "int") rfl), He.free_ok X G (c.fact 26 (f := .free "len") rfl), He.free_ok X G (c.fact 27 (f := .free "list") rfl), He.free_ok X G (c.fact 28 (f := .free "min") rfl), He.free_ok X G (c.fact 29 (f := .free "range") rfl), He.free_ok X G (c.fact 30 (f := .free "repr") rfl), He.free_ok X G (c.fact 31 (f := .free "set") rfl), He.free_ok X G (c.fact 32 (f := .free "sorted") rfl), He.free_ok X G (c.fact 33 (f := .free "zip") rfl), He.int_ok X G (c.fact 19 (f := .int "MOST_POSTS" 12) rfl), He.int_ok X G (c.fact 20 (f := .int "MOST_PLACE" 60) rfl), He.int_ok X G (c.fact 21 (f := .int "LEAST_ROW" 3) rfl), exm, dig⟩
  obtain ⟨fd_check_posts, F_check_posts⟩ := c.def_ 0 (d := d_check_posts) rfl
  obtain ⟨fd_moved, F_moved⟩ := c.def_ 1 (d := d_moved) rfl
  obtain ⟨fd_between, F_between⟩ := c.def_ 2 (d := d_between) rfl
  obtain ⟨fd_row_from, F_row_from⟩ := c.def_ 3 (d := d_row_from) rfl
  obtain ⟨fd_rows, F_rows⟩ := c.def_ 4 (d := d_rows) rfl
  obtain ⟨fd_dot, F_dot⟩ := c.def_ 5 (d := d_dot) rfl
  obtain ⟨fd_is_house, F_is_house⟩ := c.def_ 6 (d := d_is_house) rfl
  obtain ⟨fd_houses_of, F_houses_of⟩ := c.def_ 7 (d := d_houses_of) rfl
  obtain ⟨fd_houses, F_houses⟩ := c.def_ 8 (d := d_houses) rfl
  obtain ⟨fd_space, F_space⟩ := c.def_ 9 (d := d_space) rfl
  obtain ⟨fd_middle, F_middle⟩ := c.def_ 10 (d := d_middle) rfl
  obtain ⟨fd__law_draws, F__law_draws⟩ := c.def_ 11 (d := d__law_draws) rfl
  obtain ⟨fd__law_mix, F__law_mix⟩ := c.def_ 12 (d := d__law_mix) rfl
  obtain ⟨fd__law_posts, F__law_posts⟩ := c.def_ 13 (d := d__law_posts) rfl
  obtain ⟨fd__law_is_house, F__law_is_house⟩ := c.def_ 14 (d := d__law_is_house) rfl
  obtain ⟨fd__law_houses, F__law_houses⟩ := c.def_ 15 (d := d__law_houses) rfl
  obtain ⟨fd__law_rows, F__law_rows⟩ := c.def_ 16 (d := d__law_rows) rfl
  obtain ⟨fd__law_word, F__law_word⟩ := c.def_ 17 (d := d__law_word) rfl
  obtain ⟨fd_law, F_law⟩ := c.def_ 18 (d := d_law) rfl
  have e := hfa.symm.trans (He.glo_ok X G (c.fact 18 (f := .glo "law") rfl))
  cases e
  have b := FunD.bindsA (ps := ["script"]) F_law fun _ _ _ _ _ _ us hl => match us, hl with | [_], _ => rfl
  refine ⟨fd_law, fun s v => b s [v] rfl, fun base _ _ => ?_⟩
  have G_check_posts := ok_check_posts (P := P) (w := w) (base := base) bi F_check_posts  
  have C_check_posts : FnC K mg "check_posts" _ fd_check_posts ["posts"] := ⟨He.glo_ok X G (c.fact 0 (f := .glo "check_posts") rfl), F_check_posts.kp, F_check_posts.bindsN fun _ _ _ _ _ _ us hl => match us, hl with | [_], _ => rfl⟩
  have G_moved := ok_moved (P := P) (w := w) (base := base) bi F_moved  
  have C_moved : FnC K mg "moved" _ fd_moved ["post", "step", "times"] := ⟨He.glo_ok X G (c.fact 1 (f := .glo "moved") rfl), F_moved.kp, F_moved.bindsN fun _ _ _ _ _ _ us hl => match us, hl with | [_, _, _], _ => rfl⟩
  have G_between := ok_between (P := P) (w := w) (base := base) bi F_between  
  have C_between : FnC K mg "between" _ fd_between ["one", "two"] := ⟨He.glo_ok X G (c.fact 2 (f := .glo "between") rfl), F_between.kp, F_between.bindsN fun _ _ _ _ _ _ us hl => match us, hl with | [_, _], _ => rfl⟩
  have G_row_from := ok_row_from (P := P) (w := w) (base := base) bi F_row_from C_moved G_moved
  have C_row_from : FnC K mg "row_from" _ fd_row_from ["posts", "post", "step"] := ⟨He.glo_ok X G (c.fact 3 (f := .glo "row_from") rfl), F_row_from.kp, F_row_from.bindsN fun _ _ _ _ _ _ us hl => match us, hl with | [_, _, _], _ => rfl⟩
  have G_rows := ok_rows (P := P) (w := w) (base := base) bi F_rows C_check_posts C_moved C_between C_row_from G_check_posts G_moved G_between G_row_from
  have C_rows : FnC K mg "rows" _ fd_rows ["posts"] := ⟨He.glo_ok X G (c.fact 4 (f := .glo "rows") rfl), F_rows.kp, F_rows.bindsN fun _ _ _ _ _ _ us hl => match us, hl with | [_], _ => rfl⟩
  have G_dot := ok_dot (P := P) (w := w) (base := base) bi F_dot  
  have C_dot : FnC K mg "dot" _ fd_dot ["one", "two"] := ⟨He.glo_ok X G (c.fact 5 (f := .glo "dot") rfl), F_dot.kp, F_dot.bindsN fun _ _ _ _ _ _ us hl => match us, hl with | [_, _], _ => rfl⟩
  have G_is_house := ok_is_house (P := P) (w := w) (base := base) bi F_is_house C_moved C_between C_dot G_moved G_between G_dot
  have C_is_house : FnC K mg "is_house" _ fd_is_house ["posts", "house"] := ⟨He.glo_ok X G (c.fact 6 (f := .glo "is_house") rfl), F_is_house.kp, F_is_house.bindsN fun _ _ _ _ _ _ us hl => match us, hl with | [_, _], _ => rfl⟩
  have G_houses_of := ok_houses_of (P := P) (w := w) (base := base) bi F_houses_of C_moved C_between C_is_house G_moved G_between G_is_house
  have C_houses_of : FnC K mg "houses_of" _ fd_houses_of ["posts"] := ⟨He.glo_ok X G (c.fact 7 (f := .glo "houses_of") rfl), F_houses_of.kp, F_houses_of.bindsN fun _ _ _ _ _ _ us hl => match us, hl with | [_], _ => rfl⟩
  have G_houses := ok_houses (P := P) (w := w) (base := base) bi F_houses C_check_posts C_houses_of G_check_posts G_houses_of
  have C_houses : FnC K mg "houses" _ fd_houses ["posts"] := ⟨He.glo_ok X G (c.fact 8 (f := .glo "houses") rfl), F_houses.kp, F_houses.bindsN fun _ _ _ _ _ _ us hl => match us, hl with | [_], _ => rfl⟩
  have G_space := ok_space (P := P) (w := w) (base := base) bi F_space C_check_posts C_between C_is_house G_check_posts G_between G_is_house
  have C_space : FnC K mg "space" _ fd_space ["posts", "house"] := ⟨He.glo_ok X G (c.fact 9 (f := .glo "space") rfl), F_space.kp, F_space.bindsN fun _ _ _ _ _ _ us hl => match us, hl with | [_, _], _ => rfl⟩
  have G_middle := ok_middle (P := P) (w := w) (base := base) bi F_middle C_check_posts G_check_posts
  have C_middle : FnC K mg "middle" _ fd_middle ["posts"] := ⟨He.glo_ok X G (c.fact 10 (f := .glo "middle") rfl), F_middle.kp, F_middle.bindsN fun _ _ _ _ _ _ us hl => match us, hl with | [_], _ => rfl⟩
  have G__law_draws := ok__law_draws (P := P) (w := w) (base := base) bi F__law_draws  
  have C__law_draws : FnC K mg "_law_draws" _ fd__law_draws ["script"] := ⟨He.glo_ok X G (c.fact 11 (f := .glo "_law_draws") rfl), F__law_draws.kp, F__law_draws.bindsN fun _ _ _ _ _ _ us hl => match us, hl with | [_], _ => rfl⟩
  have G__law_mix := ok__law_mix (P := P) (w := w) (base := base) bi F__law_mix  
  have C__law_mix : FnC K mg "_law_mix" _ fd__law_mix ["draws", "k", "many"] := ⟨He.glo_ok X G (c.fact 12 (f := .glo "_law_mix") rfl), F__law_mix.kp, F__law_mix.bindsN fun _ _ _ _ _ _ us hl => match us, hl with | [_, _, _], _ => rfl⟩
  have G__law_posts := ok__law_posts (P := P) (w := w) (base := base) bi F__law_posts C__law_mix G__law_mix
  have C__law_posts : FnC K mg "_law_posts" _ fd__law_posts ["draws", "first"] := ⟨He.glo_ok X G (c.fact 13 (f := .glo "_law_posts") rfl), F__law_posts.kp, F__law_posts.bindsN fun _ _ _ _ _ _ us hl => match us, hl with | [_, _], _ => rfl⟩
  have G__law_is_house := ok__law_is_house (P := P) (w := w) (base := base) bi F__law_is_house  
  have C__law_is_house : FnC K mg "_law_is_house" _ fd__law_is_house ["house"] := ⟨He.glo_ok X G (c.fact 14 (f := .glo "_law_is_house") rfl), F__law_is_house.kp, F__law_is_house.bindsN fun _ _ _ _ _ _ us hl => match us, hl with | [_], _ => rfl⟩
  have G__law_houses := ok__law_houses (P := P) (w := w) (base := base) bi F__law_houses C__law_is_house G__law_is_house
  have C__law_houses : FnC K mg "_law_houses" _ fd__law_houses ["posts"] := ⟨He.glo_ok X G (c.fact 15 (f := .glo "_law_houses") rfl), F__law_houses.kp, F__law_houses.bindsN fun _ _ _ _ _ _ us hl => match us, hl with | [_], _ => rfl⟩
  have G__law_rows := ok__law_rows (P := P) (w := w) (base := base) bi F__law_rows  
  have C__law_rows : FnC K mg "_law_rows" _ fd__law_rows ["posts"] := ⟨He.glo_ok X G (c.fact 16 (f := .glo "_law_rows") rfl), F__law_rows.kp, F__law_rows.bindsN fun _ _ _ _ _ _ us hl => match us, hl with | [_], _ => rfl⟩
  have G__law_word := ok__law_word (P := P) (w := w) (base := base) bi F__law_word C_rows C_houses C_space C_middle G_rows G_houses G_space G_middle
  have C__law_word : FnC K mg "_law_word" _ fd__law_word ["way", "posts"] := ⟨He.glo_ok X G (c.fact 17 (f := .glo "_law_word") rfl), F__law_word.kp, F__law_word.bindsN fun _ _ _ _ _ _ us hl => match us, hl with | [_, _], _ => rfl⟩
  have G_law := ok_law (P := P) (w := w) (base := base) bi F_law C_rows C_houses C_space C_middle C__law_draws C__law_mix C__law_posts C__law_is_house C__law_houses C__law_rows C__law_word G_rows G_houses G_space G_middle G__law_draws G__law_mix G__law_posts G__law_is_house G__law_houses G__law_rows G__law_word
  exact G_law
end head
/-- the end: the law's walk, by the plain law -/
theorem law_end (hL : ∀ ns : List Int, ns.length ≤ 63 → N.law ⟨ns⟩ = .ok true) : PySem.Challenge.rw_dugtold_k76_whole_rows_and_houses_of_pos.Holds := by
  open PySem PySem.W PySem.Calls PyProof.Rows in
  w_on; o_law
  refine HandSHeadRun.head_any (r := PySem.W.OpenLaw.row PySem.Challenge.rw_dugtold_k76_whole_rows_and_houses_of_pos) (q := PySem.W.view (PySem.W.OpenLaw.row PySem.Challenge.rw_dugtold_k76_whole_rows_and_houses_of_pos).prog [27]) (H := hk) (ob := ob) (M := 4000) (loose := ["DigError", "WrongSize", "BadPost", "MOST_POSTS", "MOST_PLACE", "LEAST_ROW", "check_posts", "moved", "between", "row_from", "rows", "dot", "is_house", "houses_of", "houses", "space", "middle", "_law_draws", "_law_mix", "_law_posts", "_law_is_house", "_law_houses", "_law_rows", "_law_word"]) (d := HandSHeadRun.topDef (PySem.W.OpenLaw.row PySem.Challenge.rw_dugtold_k76_whole_rows_and_houses_of_pos).prog 27) (kwd := []) ob_eq
    (by kernel_rfl) (fun s => by kernel_rfl) run (by kernel_rfl) (by kernel_rfl) (by kernel_rfl) (by rfl) (by first | assumption | decide +kernel) (by decide +kernel) ⟨rfl, rfl, rfl, rfl, rfl, by decide +kernel⟩ ?hw ?hc
  case hw => w_witness2
  case hc =>
    refine Vs.walk_ofGw (l := PySem.Challenge.rw_dugtold_k76_whole_rows_and_houses_of_pos) (n := 63) (k := 7) (x := "script") (CX := L2.CX PySem.Challenge.rw_dugtold_k76_whole_rows_and_houses_of_pos.prog) rfl (by decide) (by kernel_rfl) ⟨⟨rfl, by decide, by decide⟩, rfl⟩ ?F ?hCX
    case hCX =>
      intro w H s e s' z
      obtain ⟨_, _, _, _, _, _, _, _, _, _, _, _, z⟩ := z
      exact z
    intro w mg fa h Y G hmg0
    obtain ⟨K, KX, c⟩ := Y
    have hmg : mg ("law" : PySem.Str) = some (.ref fa) := by
      have e : (HandSHeadRun.topDef (PySem.W.OpenLaw.row PySem.Challenge.rw_dugtold_k76_whole_rows_and_houses_of_pos).prog 27).name = ("law" : PySem.Str) := by kernel_rfl
      rw [← e]
      exact hmg0
    obtain ⟨fd, hb, hF⟩ := facts (P := (PySem.Challenge.rw_dugtold_k76_whole_rows_and_houses_of_pos).prog) (w := w) (by rfl) (by kernel_rfl) KX G hmg c
    refine ⟨K, fd, Vs.spR K (Vs.Rn1 N.law), KX, hb, fun H a ns hl hO hS => ?_, hF⟩
    exact Vs.law_sp hO hS (hL ns hl)

end Law
end
section
set_option Elab.async false
set_option linter.all false
set_option maxRecDepth 100000
set_option maxHeartbeats 1000000
namespace Law
open Vs.Enc (toD)
open PySem PySem.Spec PyProof.Rows Vs
theorem draws_is : @N._law_draws = @Dr._law_draws := rfl
theorem mix_is : @N._law_mix = @Dr._law_mix := rfl
abbrev Pt := Int × Int
theorem lt_pt {a b : Pt} : Ord1.lt a b = true ↔ a.1 < b.1 ∨ (a.1 = b.1 ∧ a.2 < b.2) := by
  rw [pair_lt_iff]
  by_cases h : a.1 = b.1
  · rw [if_pos h]
    show decide (a.2 < b.2) = true ↔ _
    rw [decide_eq_true_iff]
    omega
  · rw [if_neg h]
    show decide (a.1 < b.1) = true ↔ _
    rw [decide_eq_true_iff]
    omega
def Box (n : Int) (p : Pt) : Prop := 0 ≤ p.1 ∧ p.1 ≤ n ∧ 0 ≤ p.2 ∧ p.2 ≤ n
/-- posts as they have to be -/
structure GP (ps : List Pt) : Prop where
  n1 : 1 ≤ ps.length
  n12 : ps.length ≤ 12
  box : ∀ p ∈ ps, Box 60 p
  up : Up ps
instance (n : Int) (p : Pt) : Decidable (Box n p) := inferInstanceAs (Decidable (_ ∧ _ ∧ _ ∧ _))
/-! ### checks -/
theorem check_l1 {ps : List Pt} {k : Int} {p : Pt} : N.check_posts_l1 ps () (k, p) =
    (if Box 60 p then (if 0 < k then (getL ps (k - 1) >>= fun q => if Ord1.lt q p = true then .ok () else .exc "BadPost" k) else .ok ()) else .exc "BadPost" k) := by
  unfold N.check_posts_l1
  obtain ⟨x, y⟩ := p
  dsimp only
  by_cases h1 : (0 : Int) ≤ x
  · by_cases h2 : x ≤ 60
    · by_cases h3 : (0 : Int) ≤ y
      · by_cases h4 : y ≤ 60
        · have hc : Box 60 (x, y) := ⟨h1, h2, h3, h4⟩
          rw [if_pos hc]
          by_cases hk : 0 < k
          · rw [if_pos hk]
            simp only [decide_eq_true h1, decide_eq_true h2, decide_eq_true h3, decide_eq_true h4, decide_eq_true hk, if_true, Res.ok_bind, Bool.not_true, Bool.false_eq_true, if_false]
            cases getL ps (k - 1) with
            | ok q =>
              simp only [Res.ok_bind]
              cases Ord1.lt q (x, y) <;> rfl
            | exc c i => rfl
            | stuck => rfl
          · rw [if_neg hk]
            simp only [decide_eq_true h1, decide_eq_true h2, decide_eq_true h3, decide_eq_true h4, decide_eq_false hk, if_true, Res.ok_bind, Bool.not_true, Bool.false_eq_true, if_false]
        · have hc : ¬ Box 60 (x, y) := fun h => h4 h.2.2.2
          rw [if_neg hc]
          simp only [decide_eq_true h1, decide_eq_true h2, decide_eq_true h3, decide_eq_false h4, if_true, Res.ok_bind, Bool.not_true, Bool.not_false, Bool.false_eq_true, if_false]
          rfl
      · have hc : ¬ Box 60 (x, y) := fun h => h3 h.2.2.1
        rw [if_neg hc]
        simp only [decide_eq_true h1, decide_eq_true h2, decide_eq_false h3, if_true, Res.ok_bind, Bool.not_true, Bool.not_false, Bool.false_eq_true, if_false]
        rfl
    · have hc : ¬ Box 60 (x, y) := fun h => h2 h.2.1
      rw [if_neg hc]
      simp only [decide_eq_true h1, decide_eq_false h2, if_true, Res.ok_bind, Bool.not_false]
      rfl
  · have hc : ¬ Box 60 (x, y) := fun h => h1 h.1
    rw [if_neg hc]
    simp only [decide_eq_false h1, Bool.false_eq_true, if_false, Res.ok_bind, Bool.not_false, if_true]
    rfl
section
variable {ps : List Pt}
theorem check_head (h1 : 1 ≤ ps.length) (h2 : ps.length ≤ 12) : N.check_posts ps = (foldR (N.check_posts_l1 ps) (enumL ps) () >>= fun _ => .ok ()) := by
  unfold N.check_posts
  have a1 : (1 : Int) ≤ lenL ps := by unfold lenL; omega
  have a2 : lenL ps ≤ 12 := by unfold lenL; omega
  simp only [decide_eq_true a1, decide_eq_true a2, if_true, Res.ok_bind, Bool.not_true, Bool.false_eq_true, if_false]
/-- the first k of the posts pass -/
theorem l1_pass {k : Nat} {x y : Pt} (hb : Box 60 y) (h : ∀ j, k = j + 1 → ps[j]? = some x → Ord1.lt x y = true) (hx : ∀ j, k = j + 1 → ps[j]? = some x) : N.check_posts_l1 ps () ((k : Int), y) = .ok () := by
  rw [check_l1, if_pos hb]
  cases k with
  | zero => rw [if_neg (by omega)]
  | succ j =>
    have e : ((j + 1 : Nat) : Int) - 1 = (j : Int) := by omega
    rw [if_pos (by omega), e, getL_nat (hx j rfl), Res.ok_bind, if_pos (h j rfl (hx j rfl))]
theorem check_ok (g : GP ps) : N.check_posts ps = .ok () := by
  rw [check_head g.n1 g.n12, foldR_pass]
  · rfl
  · intro p hp
    obtain ⟨k, h1, h2⟩ := mem_enumL hp
    obtain ⟨i, y⟩ := p
    dsimp only at h1 h2
    subst h1
    have hk := (List.getElem?_eq_some_iff.mp h2).1
    refine l1_pass (x := ps[k - 1]'(by omega)) (g.box y (List.mem_of_getElem? h2)) (fun j e hj => ?_) fun j e => ?_
    · subst e
      have := List.pairwise_iff_getElem.mp g.up j (j + 1) (by omega) hk (by omega)
      rw [(List.getElem?_eq_some_iff.mp h2).2] at this
      exact this
    · subst e
      exact List.getElem?_eq_getElem (by omega)
theorem check_none : N.check_posts [] = .exc "WrongSize" 0 := rfl
theorem check_many : N.check_posts (List.replicate 13 ((9 : Int), (9 : Int))) = .exc "WrongSize" 13 := rfl
/-- the last one twice -/
theorem check_twice (g : GP ps) (h : ps.length < 12) {z : Pt} (hz : ps[ps.length - 1]? = some z) : N.check_posts (ps ++ [z]) = .exc "BadPost" ps.length := by
  have n1 := g.n1
  rw [check_head (by simp) (by simp; omega), foldR_fail (k := ps.length) (c := "BadPost") (i := ps.length) (x := ((ps.length : Int), z)) (enumL_at (by simp)) ?_ ?_]
  · rfl
  · intro j hj p hp
    obtain ⟨h1, h2⟩ := enumL_get hp
    obtain ⟨i, y⟩ := p
    dsimp only at h1 h2
    subst h1
    rw [List.getElem?_append_left hj] at h2
    refine l1_pass (x := ps[j - 1]'(by omega)) (g.box y (List.mem_of_getElem? h2)) (fun i e hi => ?_) fun i e => ?_
    · subst e
      have := List.pairwise_iff_getElem.mp g.up i (i + 1) (by omega) hj (by omega)
      rw [(List.getElem?_eq_some_iff.mp h2).2] at this
      exact this
    · subst e
      rw [List.getElem?_append_left (by omega)]
      exact List.getElem?_eq_getElem (by omega)
  · have e1 : (ps.length : Int) - 1 = ((ps.length - 1 : Nat) : Int) := by omega
    have e2 : (ps ++ [z])[ps.length - 1]? = some z := by rw [List.getElem?_append_left (by omega)]; exact hz
    rw [check_l1, if_pos (g.box z (List.mem_of_getElem? hz)), if_pos (by omega), e1, getL_nat e2, Res.ok_bind, if_neg (by rw [OrdT.irr]; decide)]
/-- a post out of the field -/
theorem check_out (g : GP ps) {k : Nat} (hk : k < ps.length) {b : Pt} (hb : ¬ Box 60 b) : N.check_posts (ps.take k ++ [b] ++ ps.drop (k + 1)) = .exc "BadPost" k := by
  have n1 := g.n1
  have n12 := g.n12
  have hlen : (ps.take k ++ [b] ++ ps.drop (k + 1)).length = ps.length := by simp; omega
  have at_ : ∀ j, j < k → (ps.take k ++ [b] ++ ps.drop (k + 1))[j]? = ps[j]? := fun j hj => by
    rw [List.append_assoc, List.getElem?_append_left (by simp; omega), List.getElem?_take, if_pos hj]
  have atk : (ps.take k ++ [b] ++ ps.drop (k + 1))[k]? = some b := by
    rw [List.append_assoc, List.getElem?_append_right (by simp; omega)]
    have : k - (ps.take k).length = 0 := by simp; omega
    rw [this]; rfl
  rw [check_head (by omega) (by omega), foldR_fail (k := k) (c := "BadPost") (i := k) (x := ((k : Int), b)) (enumL_at atk) ?_ ?_]
  · rfl
  · intro j hj p hp
    obtain ⟨h1, h2⟩ := enumL_get hp
    obtain ⟨i, y⟩ := p
    dsimp only at h1 h2
    subst h1
    rw [at_ j hj] at h2
    refine l1_pass (x := ps[j - 1]'(by omega)) (g.box y (List.mem_of_getElem? h2)) (fun i e hi => ?_) fun i e => ?_
    · subst e
      have := List.pairwise_iff_getElem.mp g.up i (i + 1) (by omega) (by omega) (by omega)
      rw [(List.getElem?_eq_some_iff.mp h2).2] at this
      exact this
    · subst e
      rw [at_ i (by omega)]
      exact List.getElem?_eq_getElem (by omega)
  · rw [check_l1, if_neg hb]
end
/-! ### words -/
section
variable {qs : List Pt} {i : Int}
theorem word_size (h : N.check_posts qs = .exc "WrongSize" i) {way : Int} (h0 : 0 ≤ way) (h4 : way < 4) : N._law_word way qs = .ok (ps "size", i) := by
  have a1 : N.rows qs = .exc "WrongSize" i := by unfold N.rows; rw [h]; rfl
  have a2 : N.houses qs = .exc "WrongSize" i := by unfold N.houses; rw [h]; rfl
  have a3 : N.middle qs = .exc "WrongSize" i := by unfold N.middle; rw [h]; rfl
  have a4 : N.space qs [] = .exc "WrongSize" i := by unfold N.space; rw [h]; rfl
  unfold N._law_word
  rcases (show way = 0 ∨ way = 1 ∨ way = 2 ∨ way = 3 by omega) with rfl | rfl | rfl | rfl
  · show tryR kn (((N.rows qs >>= fun z => .ok (dynR z)) >>= fun _ => .ok ()) >>= fun _ => .ok ()) _ _ = _
    rw [a1]; rfl
  · show tryR kn (((N.houses qs >>= fun z => .ok (dynR z)) >>= fun _ => .ok ()) >>= fun _ => .ok ()) _ _ = _
    rw [a2]; rfl
  · show tryR kn (((N.middle qs >>= fun z => .ok (dynR z)) >>= fun _ => .ok ()) >>= fun _ => .ok ()) _ _ = _
    rw [a3]; rfl
  · show tryR kn ((N.space qs [] >>= fun _ => .ok ()) >>= fun _ => .ok ()) _ _ = _
    rw [a4]; rfl
theorem word_post (h : N.check_posts qs = .exc "BadPost" i) {way : Int} (h0 : 0 ≤ way) (h4 : way < 4) : N._law_word way qs = .ok (ps "post", i) := by
  have a1 : N.rows qs = .exc "BadPost" i := by unfold N.rows; rw [h]; rfl
  have a2 : N.houses qs = .exc "BadPost" i := by unfold N.houses; rw [h]; rfl
  have a3 : N.middle qs = .exc "BadPost" i := by unfold N.middle; rw [h]; rfl
  have a4 : N.space qs [] = .exc "BadPost" i := by unfold N.space; rw [h]; rfl
  unfold N._law_word
  rcases (show way = 0 ∨ way = 1 ∨ way = 2 ∨ way = 3 by omega) with rfl | rfl | rfl | rfl
  · show tryR kn (((N.rows qs >>= fun z => .ok (dynR z)) >>= fun _ => .ok ()) >>= fun _ => .ok ()) _ _ = _
    rw [a1]; rfl
  · show tryR kn (((N.houses qs >>= fun z => .ok (dynR z)) >>= fun _ => .ok ()) >>= fun _ => .ok ()) _ _ = _
    rw [a2]; rfl
  · show tryR kn (((N.middle qs >>= fun z => .ok (dynR z)) >>= fun _ => .ok ()) >>= fun _ => .ok ()) _ _ = _
    rw [a3]; rfl
  · show tryR kn ((N.space qs [] >>= fun _ => .ok ()) >>= fun _ => .ok ()) _ _ = _
    rw [a4]; rfl
end
end Law
end
section
set_option Elab.async false
set_option linter.all false
set_option maxRecDepth 100000
set_option maxHeartbeats 1000000
noncomputable section
namespace Law
open Vs.Enc (toD)
open PySem PySem.Spec PyProof.Rows Vs
theorem lim_big : (4096 : Nat) ≤ lim := by unfold lim; decide
theorem moved_is {p s : Pt} {t : Int} (h1 : -big < t) (h2 : t < big) : N.moved p s t = .ok (p.1 + t * s.1, p.2 + t * s.2) := by
  unfold N.moved
  rw [mulI_l h1 h2, Res.ok_bind, mulI_l h1 h2, Res.ok_bind]
theorem moved_1 (p s : Pt) : N.moved p s 1 = .ok (p.1 + s.1, p.2 + s.2) := by
  rw [moved_is (by decide) (by decide), Int.one_mul, Int.one_mul]
theorem moved_n (p s : Pt) : N.moved p s (-(1 : Int)) = .ok (p.1 - s.1, p.2 - s.2) := by
  rw [moved_is (by decide) (by decide), Int.neg_mul, Int.one_mul, Int.neg_mul, Int.one_mul]; rfl
def goC (ps : List Pt) (s : Pt) : List Pt → Res Bool := fun l => getL l (-1) >>= fun q => .ok (memB (q.1 + s.1, q.2 + s.2) ps)
def goB (s : Pt) : List Pt → Res (List Pt) := fun l => getL l (-1) >>= fun q => pushL l (q.1 + s.1, q.2 + s.2)
theorem c1_is (ps : List Pt) (s : Pt) : N.row_from_c1 ps s = goC ps s := by
  funext l
  unfold N.row_from_c1 goC
  show (getL l (-(1 : Int)) >>= _) = _
  cases getL l (-(1 : Int)) with
  | ok q => simp only [Res.ok_bind, moved_1]
  | exc c i => rfl
  | stuck => rfl
theorem l1_is (s : Pt) : N.row_from_l1 s = goB s := by
  funext l
  unfold N.row_from_l1 goB
  show (getL l (-(1 : Int)) >>= _) = _
  cases getL l (-(1 : Int)) with
  | ok q => simp only [Res.ok_bind, moved_1, Res.bind_ok]
  | exc c i => rfl
  | stuck => rfl
theorem lc1_is (ps : List Pt) (a b : Int) : N._law_rows_c1 ps ⟨a, b⟩ = goC ps (a, b) := by
  funext l
  unfold N._law_rows_c1 goC
  show (getL l (-(1 : Int)) >>= fun x => getL l (-(1 : Int)) >>= fun y => _) = _
  cases getL l (-(1 : Int)) <;> rfl
theorem ll1_is (a b : Int) : N._law_rows_l1 ⟨a, b⟩ = goB (a, b) := by
  funext l
  unfold N._law_rows_l1 goB
  show (getL l (-(1 : Int)) >>= fun x => getL l (-(1 : Int)) >>= fun y => _) = _
  cases getL l (-(1 : Int)) with
  | ok q => simp only [Res.ok_bind, Res.bind_ok]
  | exc c i => rfl
  | stuck => rfl
def Pos (s : Pt) : Prop := 0 < s.1 ∨ (s.1 = 0 ∧ 0 < s.2)
theorem lt_go {s : Pt} (h : Pos s) (p : Pt) : Ord1.lt p (p.1 + s.1, p.2 + s.2) = true := by
  rw [lt_pt]; unfold Pos at h
  dsimp only
  omega
section
variable {ps : List Pt}
theorem walk_ok (g : GP ps) {s : Pt} (hs : Pos s) : ∀ (n : Nat) (l : List Pt), l ≠ [] → Up l → (∀ x ∈ l, x ∈ ps) → ps.length - l.length ≤ n → ∃ t, whileR (goC ps s) (goB s) l = .ok t ∧ t ≠ [] ∧ Up t ∧ ∀ x ∈ t, x ∈ ps := by
  intro n
  induction n with
  | zero =>
    intro l hn hu hm hl
    refine ⟨l, whileR_stop ?_, hn, hu, hm⟩
    unfold goC
    rw [getL_neg1 hn, Res.ok_bind]
    refine congrArg Res.ok (memB_f fun h => ?_)
    have := (up_sublist g.up (up_snoc hu hn (lt_go hs _)) fun x hx => by
      rcases List.mem_append.mp hx with q | q
      · exact hm x q
      · rw [List.mem_singleton.mp q]; exact h).length_le
    rw [List.length_append, List.length_singleton] at this
    omega
  | succ n ih =>
    intro l hn hu hm hl
    by_cases h : ((l.getLast hn).1 + s.1, (l.getLast hn).2 + s.2) ∈ ps
    · have hm' : ∀ x ∈ l ++ [((l.getLast hn).1 + s.1, (l.getLast hn).2 + s.2)], x ∈ ps := fun x hx => by
        rcases List.mem_append.mp hx with q | q
        · exact hm x q
        · rw [List.mem_singleton.mp q]; exact h
      have hu' := up_snoc hu hn (lt_go hs (l.getLast hn))
      have hle := (up_sublist g.up hu' hm').length_le
      have n12 := g.n12
      have lb := lim_big
      rw [List.length_append, List.length_singleton] at hle
      rw [whileR_step (s' := l ++ [((l.getLast hn).1 + s.1, (l.getLast hn).2 + s.2)]) (by
        unfold goC
        rw [getL_neg1 hn, Res.ok_bind]
        exact congrArg Res.ok (memB_t h)) (by
        unfold goB
        rw [getL_neg1 hn, Res.ok_bind, pushL_is (by omega)])]
      exact ih _ (by simp) hu' hm' (by rw [List.length_append, List.length_singleton]; omega)
    · refine ⟨l, whileR_stop ?_, hn, hu, hm⟩
      unfold goC
      rw [getL_neg1 hn, Res.ok_bind]
      exact congrArg Res.ok (memB_f h)
def stp (one two : Pt) : Pt := (two.1 - one.1, two.2 - one.2)
def toldL (ps : List Pt) (one two : Pt) : List Pt := match whileR (goC ps (stp one two)) (goB (stp one two)) [one] with
  | .ok t => t
  | _ => []
theorem told_ok (g : GP ps) {one two : Pt} (h1 : one ∈ ps) (h : Ord1.lt one two = true) : whileR (goC ps (stp one two)) (goB (stp one two)) [one] = .ok (toldL ps one two) ∧ Up (toldL ps one two) ∧ ∀ x ∈ toldL ps one two, x ∈ ps := by
  obtain ⟨t, e, _, h2, h3⟩ := walk_ok g (s := stp one two) (by
    rw [lt_pt] at h
    unfold Pos stp
    dsimp only
    omega) 12 [one] (by simp) (List.pairwise_singleton _ _) (fun x hx => by rw [List.mem_singleton.mp hx]; exact h1) (by have := g.n12; simp; omega)
  unfold toldL
  rw [e]
  exact ⟨rfl, h2, h3⟩
def rowG (ps : List Pt) (one two : Pt) : List (List Pt) := if 3 ≤ (toldL ps one two).length ∧ (one.1 - (two.1 - one.1), one.2 - (two.2 - one.2)) ∉ ps then [toldL ps one two] else []
def rowL (ps : List Pt) : List (List Pt) := ps.flatMap fun one => (ps.filter fun two => Ord1.lt one two).flatMap (rowG ps one)
theorem rowG_len (one two : Pt) : (rowG ps one two).length ≤ 1 := by unfold rowG; split <;> simp
theorem prog_row (g : GP ps) {k : Int} {one two : Pt} (h1 : one ∈ ps) (h : Ord1.lt one two = true) (s : List (List Pt)) (hs : s.length + (rowG ps one two).length ≤ lim) : N.rows_l1 ps (k, one) s two = .ok (s ++ rowG ps one two) := by
  obtain ⟨e, hu, hm⟩ := told_ok g h1 h
  unfold N.rows_l1
  show (N.row_from ps one (stp one two) >>= _) = _
  unfold N.row_from
  rw [c1_is, l1_is]
  dsimp only
  rw [e]
  simp only [Res.ok_bind, Res.bind_ok]
  unfold rowG at hs ⊢
  by_cases c1 : 3 ≤ (toldL ps one two).length
  · have a1 : (3 : Int) ≤ lenL (toldL ps one two) := by unfold lenL; omega
    rw [decide_eq_true a1, if_pos rfl, moved_n, Res.ok_bind]
    by_cases c2 : (one.1 - (two.1 - one.1), one.2 - (two.2 - one.2)) ∈ ps
    · rw [if_neg fun c => c.2 c2, List.append_nil]
      rw [memB_t (show ((one.1 - (two.1 - one.1), one.2 - (two.2 - one.2)) : Pt) ∈ ps from c2)]; rfl
    · rw [if_pos ⟨c1, c2⟩] at hs ⊢
      rw [memB_f (show ¬ ((one.1 - (two.1 - one.1), one.2 - (two.2 - one.2)) : Pt) ∈ ps from c2)]
      simp only [Bool.not_false, if_true, Res.ok_bind]
      exact pushL_is (by rw [List.length_singleton] at hs; omega)
  · have a1 : ¬ (3 : Int) ≤ lenL (toldL ps one two) := by unfold lenL; omega
    rw [decide_eq_false a1, if_neg (by decide), if_neg fun c => c1 c.1, List.append_nil]; rfl
theorem law_row (g : GP ps) {one two : Pt} (h1 : one ∈ ps) (s : List (List Pt)) (hs : s.length + (if Ord1.lt one two = true then rowG ps one two else []).length ≤ lim) : N._law_rows_l2 ps one s two = .ok (s ++ if Ord1.lt one two = true then rowG ps one two else []) := by
  unfold N._law_rows_l2
  cases h : Ord1.lt one two with
  | false => simp
  | true =>
    obtain ⟨e, hu, hm⟩ := told_ok g h1 h
    rw [h] at hs
    simp only [if_true] at hs ⊢
    show (((whileR (N._law_rows_c1 ps ⟨two.1 - one.1, two.2 - one.2⟩) (N._law_rows_l1 ⟨two.1 - one.1, two.2 - one.2⟩) [one]) >>= _) >>= _) = _
    rw [lc1_is, ll1_is]
    show ((whileR (goC ps (stp one two)) (goB (stp one two)) [one] >>= _) >>= _) = _
    rw [e]
    simp only [Res.ok_bind, Res.bind_ok]
    unfold rowG at hs ⊢
    by_cases c1 : 3 ≤ (toldL ps one two).length
    · have a1 : (2 : Int) < lenL (toldL ps one two) := by unfold lenL; omega
      rw [decide_eq_true a1, if_pos rfl]
      by_cases c2 : (one.1 - (two.1 - one.1), one.2 - (two.2 - one.2)) ∈ ps
      · rw [if_neg fun c => c.2 c2, List.append_nil]
        rw [memB_t c2]; rfl
      · rw [if_pos ⟨c1, c2⟩] at hs ⊢
        rw [memB_f c2]
        simp only [Bool.not_false, if_true, Res.ok_bind]
        exact pushL_is (by rw [List.length_singleton] at hs; omega)
    · have a1 : ¬ (2 : Int) < lenL (toldL ps one two) := by unfold lenL; omega
      rw [decide_eq_false a1, if_neg (by decide), if_neg fun c => c1 c.1, List.append_nil]; rfl
theorem rowIn_len (g : GP ps) (one : Pt) : ((ps.filter fun two => Ord1.lt one two).flatMap (rowG ps one)).length ≤ 12 := by
  have h1 := flatMap_len (n := 1) (xs := ps.filter fun two => Ord1.lt one two) fun x _ => rowG_len (ps := ps) one x
  have h2 := List.length_filter_le (fun two => Ord1.lt one two) ps
  have := g.n12
  omega
theorem rowL_len (g : GP ps) : (rowL ps).length ≤ 144 := by
  have h1 := flatMap_len (n := 12) (xs := ps) fun x _ => rowIn_len g x
  have := g.n12
  unfold rowL
  omega
theorem rows_is (g : GP ps) : N.rows ps = .ok (sortP (rowL ps)) := by
  have lb := lim_big
  unfold N.rows
  rw [check_ok g, Res.ok_bind]
  dsimp only
  rw [foldR_enum (g := fun s one => foldR (N.rows_l1 ps (0, one)) (ps.filter fun two => Ord1.lt one two) s) fun k one hk s => ?_]
  · rw [foldR_flat (B := lim) (g := fun one => (ps.filter fun two => Ord1.lt one two).flatMap (rowG ps one)) fun one h1 s hs => ?_]
    · rw [List.nil_append, Res.ok_bind, sortL_list, Res.ok_bind]; rfl
    · rw [List.length_nil]
      have := rowL_len g
      unfold rowL at this
      omega
    · refine foldR_flat (B := lim) (fun two h2 s hs => prog_row g h1 (List.mem_filter.mp h2).2 s hs) hs
  · have hkl := (List.getElem?_eq_some_iff.mp hk).1
    unfold N.rows_l2
    have e : ((k : Int) + 1) = ((k + 1 : Nat) : Int) := by omega
    dsimp only
    rw [e, cutL_from (by omega), Res.bind_ok, up_drop g.up hk]
    rfl
theorem law_rows_is (g : GP ps) : N._law_rows ps = .ok (sortP (rowL ps)) := by
  have lb := lim_big
  unfold N._law_rows
  dsimp only
  rw [foldR_flat (B := lim) (g := fun one => (ps.filter fun two => Ord1.lt one two).flatMap (rowG ps one)) fun one h1 s hs => ?_]
  · rw [List.nil_append, Res.ok_bind, sortL_list, Res.ok_bind]; rfl
  · rw [List.length_nil]
    have := rowL_len g
    unfold rowL at this
    omega
  · unfold N._law_rows_l3
    rw [Res.bind_ok]
    rw [← flatMap_if] at hs ⊢
    exact foldR_flat (B := lim) (fun two h2 s hs => law_row g h1 s hs) hs
theorem rowL_mem (g : GP ps) : ∀ r ∈ rowL ps, r.length ≤ 12 ∧ ∀ x ∈ r, x ∈ ps := by
  intro r hr
  unfold rowL at hr
  obtain ⟨one, h1, hr⟩ := List.mem_flatMap.mp hr
  obtain ⟨two, h2, hr⟩ := List.mem_flatMap.mp hr
  obtain ⟨_, hu, hm⟩ := told_ok g h1 (List.mem_filter.mp h2).2
  unfold rowG at hr
  split at hr
  · rw [List.mem_singleton.mp hr]
    exact ⟨Nat.le_trans (up_sublist g.up hu hm).length_le g.n12, hm⟩
  · simp at hr
/-! ### what can be shown -/
theorem sh_pt {n : Int} {p : Pt} (hn : n < 1000) (h : Box n p) : Sh (toD p) 2 := by
  obtain ⟨h1, h2, h3, h4⟩ := h
  exact Sh.pair (n := 0) (Sh.int h1 (by omega)) (Sh.int h3 (by omega))
theorem sh_pts {n : Int} {l : List Pt} (hn : n < 1000) (h : ∀ p ∈ l, Box n p) (hl : l.length ≤ 12) : Sh (toD l) 36 := (Sh.list (n := 2) fun p hp => sh_pt hn (h p hp)).mono (by omega)
theorem sh_rows {l : List (List Pt)} {n : Nat} (h : ∀ r ∈ l, r.length ≤ 12 ∧ ∀ p ∈ r, Box 60 p) (hl : l.length ≤ n) : Sh (toD l) (37 * n) := (Sh.list (n := 36) fun r hr => sh_pts (n := 60) (by decide) (h r hr).2 (h r hr).1).mono (by omega)
theorem rows_repr (g : GP ps) : ∃ t, reprR (sortP (rowL ps)) = .ok t :=
  ⟨_, reprR_sh (sh_rows (n := 144) (fun r hr => by
    have := rowL_mem g r (mem_sortP.mp hr)
    exact ⟨this.1, fun p hp => g.box p (this.2 p hp)⟩) (by rw [sortP_len]; exact rowL_len g)) (by decide)⟩
end
end Law
end
section
set_option Elab.async false
set_option linter.all false
set_option maxRecDepth 100000
set_option maxHeartbeats 1000000
noncomputable section
namespace Law
open Vs.Enc (toD)
open PySem PySem.Spec PyProof.Rows Vs
theorem between_is (a b : Pt) : N.between a b = .ok (b.1 - a.1, b.2 - a.2) := rfl
def HB : List Pt → Bool
  | [a, b, c, d] => Ord1.lt a b && (Ord1.lt b c && Ord1.lt c d) && decide ((b.1 - a.1) * (c.1 - a.1) + (b.2 - a.2) * (c.2 - a.2) = 0) && decide ((b.1 + c.1 - a.1, b.2 + c.2 - a.2) = d)
  | _ => false
theorem hb_of {l : List Pt} (h : HB l = true) : ∃ a b c d, l = [a, b, c, d] ∧ Ord1.lt a b = true ∧ Ord1.lt b c = true ∧ Ord1.lt c d = true ∧ (b.1 - a.1) * (c.1 - a.1) + (b.2 - a.2) * (c.2 - a.2) = 0 ∧ (b.1 + c.1 - a.1, b.2 + c.2 - a.2) = d := by
  match l, h with
  | [a, b, c, d], h =>
    unfold HB at h
    simp only [Bool.and_eq_true, decide_eq_true_eq] at h
    exact ⟨a, b, c, d, rfl, h.1.1.1, h.1.1.2.1, h.1.1.2.2, h.1.2, h.2⟩
theorem up4 {a b c d : Pt} : Up [a, b, c, d] ↔ (Ord1.lt a b && (Ord1.lt b c && Ord1.lt c d)) = true := by
  simp only [Bool.and_eq_true]
  constructor
  · intro h
    simp only [Up, List.pairwise_cons, List.mem_cons, List.not_mem_nil, or_false] at h
    exact ⟨h.1 b (.inl rfl), h.2.1 c (.inl rfl), h.2.2.1 d rfl⟩
  · intro ⟨h1, h2, h3⟩
    have h13 := OrdT.tr _ _ _ h1 h2
    have h24 := OrdT.tr _ _ _ h2 h3
    have h14 := OrdT.tr _ _ _ h1 h24
    simp only [Up, List.pairwise_cons, List.mem_cons, List.not_mem_nil, or_false, forall_eq_or_imp, forall_eq, List.Pairwise.nil, and_true, false_implies, implies_true]
    exact ⟨⟨h1, h13, h14⟩, ⟨h2, h24⟩, h3⟩
theorem dif_big {n x y : Int} (hn : n < 1000) (h1 : 0 ≤ x) (h2 : x ≤ n) (h3 : 0 ≤ y) (h4 : y ≤ n) : -big < x - y ∧ x - y < big := by unfold big; omega
theorem law_is {n : Int} (hn : n < 1000) {l : List Pt} (hb : ∀ p ∈ l, Box n p) : N._law_is_house l = .ok (HB l) := by
  have other : l.length ≠ 4 → N._law_is_house l = .ok false := fun h => by
    unfold N._law_is_house
    rw [decide_eq_false (by unfold lenL; omega)]; rfl
  match l, hb, other with
  | [], _, o => exact o (by decide)
  | [_], _, o => exact o (by simp)
  | [_, _], _, o => exact o (by simp)
  | [_, _, _], _, o => exact o (by simp)
  | _ :: _ :: _ :: _ :: _ :: _, _, o => exact o (by simp)
  | [a, b, c, d], hb, _ =>
    have ba := hb a (by simp)
    have bb := hb b (by simp)
    unfold N._law_is_house
    have e1 : setT [a, b, c, d] = .ok [a, b, c, d] := by unfold setT bdL; exact if_pos (show 4 ≤ 63 by decide)
    have e2 : sortT [a, b, c, d] = .ok (sortS [a, b, c, d]) := if_pos (.inl rfl)
    have e3 : decide ([a, b, c, d] = sortS [a, b, c, d]) = (Ord1.lt a b && (Ord1.lt b c && Ord1.lt c d)) := by
      rw [Bool.eq_iff_iff, decide_eq_true_iff, sortS_iff, up4]
    have e4 : decide (lenL [a, b, c, d] = 4) = true := rfl
    have m1 := dif_big hn bb.1 bb.2.1 ba.1 ba.2.1
    have m2 := dif_big hn bb.2.2.1 bb.2.2.2 ba.2.2.1 ba.2.2.2
    rw [e4]
    simp only [Bool.not_true, Bool.false_eq_true, if_false]
    rw [e1, Res.ok_bind, e2, Res.ok_bind, e3, Res.ok_bind]
    show _ = Res.ok ((Ord1.lt a b && (Ord1.lt b c && Ord1.lt c d)) && decide _ && decide _)
    cases (Ord1.lt a b && (Ord1.lt b c && Ord1.lt c d)) with
    | false => rfl
    | true =>
      simp only [Bool.not_true, Bool.false_eq_true, if_false, Bool.true_and]
      show (Res.ok (⟨a, b, c, d⟩ : U4 Pt Pt Pt Pt) >>= _) = _
      rw [Res.ok_bind]
      dsimp only
      rw [mulI_l m1.1 m1.2, Res.ok_bind, mulI_l m2.1 m2.2, Res.ok_bind]
      by_cases q : (b.1 - a.1) * (c.1 - a.1) + (b.2 - a.2) * (c.2 - a.2) = 0
      · simp only [q, decide_true, if_true, Res.ok_bind, Bool.true_and]
      · simp only [decide_eq_false q, Bool.false_eq_true, if_false, Res.ok_bind, Bool.false_and]
section
variable {ps : List Pt}
theorem is_house_is {n : Int} (hn : n < 1000) {l : List Pt} (hb : ∀ p ∈ l, Box n p) : N.is_house ps l = .ok (HB l && l.all fun p => memB p ps) := by
  have other : l.length ≠ 4 → N.is_house ps l = .ok false := fun h => by
    unfold N.is_house
    rw [decide_eq_false (by unfold lenL; omega)]; rfl
  match l, hb, other with
  | [], _, o => exact o (by decide)
  | [_], _, o => exact o (by simp)
  | [_, _], _, o => exact o (by simp)
  | [_, _, _], _, o => exact o (by simp)
  | _ :: _ :: _ :: _ :: _ :: _, _, o => exact o (by simp)
  | [a, b, c, d], hb, _ =>
    have ba := hb a (by simp)
    have bb := hb b (by simp)
    have m1 := dif_big hn bb.1 bb.2.1 ba.1 ba.2.1
    have m2 := dif_big hn bb.2.2.1 bb.2.2.2 ba.2.2.1 ba.2.2.2
    unfold N.is_house
    have e4 : decide (lenL [a, b, c, d] = 4) = true := rfl
    rw [e4]
    simp only [Bool.not_true, Bool.false_eq_true, if_false]
    rw [lcR_map (g := fun p => memB p ps) fun _ _ => rfl, Res.ok_bind, Res.ok_bind]
    have e5 : (([a, b, c, d].map fun p => memB p ps).all id) = ([a, b, c, d].all fun p => memB p ps) := by rw [List.all_map]; rfl
    rw [e5]
    cases ([a, b, c, d].all fun p => memB p ps) with
    | false => rw [Bool.and_false]; rfl
    | true =>
      simp only [Bool.not_true, Bool.false_eq_true, if_false, Bool.and_true]
      have e6 : [a, b, c, d].zip (cutL [a, b, c, d] (some (1 : Int)) none) = [(a, b), (b, c), (c, d)] := by
        have := cutL_from (xs := [a, b, c, d]) (k := 1) (by simp)
        rw [show (1 : Int) = ((1 : Nat) : Int) from rfl, this]; rfl
      rw [e6, lcR_map (g := fun p : Pt × Pt => Ord1.lt p.1 p.2) fun _ _ => rfl, Res.ok_bind]
      have e7 : ([(a, b), (b, c), (c, d)].map fun p => Ord1.lt p.1 p.2).all id = (Ord1.lt a b && (Ord1.lt b c && Ord1.lt c d)) := by
        simp only [List.map_cons, List.map_nil, List.all_cons, List.all_nil, id, Bool.and_true]
      rw [e7]
      show _ = Res.ok ((Ord1.lt a b && (Ord1.lt b c && Ord1.lt c d)) && decide _ && decide _)
      cases (Ord1.lt a b && (Ord1.lt b c && Ord1.lt c d)) with
      | false => rfl
      | true =>
        simp only [Bool.not_true, Bool.false_eq_true, if_false, Bool.true_and]
        show (Res.ok (⟨a, b, c, d⟩ : U4 Pt Pt Pt Pt) >>= _) = _
        rw [Res.ok_bind]
        dsimp only
        rw [between_is, Res.ok_bind, between_is, Res.ok_bind, moved_1, Res.ok_bind]
        dsimp only
        rw [← Int.add_sub_assoc, ← Int.add_sub_assoc]
        have e8 : N.dot (b.1 - a.1, b.2 - a.2) (c.1 - a.1, c.2 - a.2) = .ok ((b.1 - a.1) * (c.1 - a.1) + (b.2 - a.2) * (c.2 - a.2)) := by
          unfold N.dot
          dsimp only
          rw [mulI_l m1.1 m1.2, Res.ok_bind, mulI_l m2.1 m2.2, Res.ok_bind]
        by_cases q : ((b.1 + c.1 - a.1, b.2 + c.2 - a.2) : Pt) = d
        · rw [decide_eq_true q, if_pos rfl, e8, Res.ok_bind, Res.ok_bind, Bool.and_true]
        · rw [decide_eq_false q, if_neg (by decide), Bool.and_false]; rfl
/-! ### the program's houses -/
def dOf (a b c : Pt) : Pt := (b.1 + (c.1 - a.1), b.2 + (c.2 - a.2))
def hG (ps : List Pt) (a b c : Pt) : List (List Pt) := if dOf a b c ∈ ps ∧ HB [a, b, c, dOf a b c] = true then [[a, b, c, dOf a b c]] else []
def hF (ps : List Pt) (a b : Pt) (s : List (List Pt)) (c : Pt) : Res (List (List Pt)) := (if memB (dOf a b c) ps = true then N.is_house ps [a, b, c, dOf a b c] else .ok false) >>= fun t => if t = true then pushL s [a, b, c, dOf a b c] else .ok s
def houseL (ps : List Pt) : List (List Pt) := ps.flatMap fun a => (ps.filter fun b => Ord1.lt a b).flatMap fun b => (ps.filter fun c => Ord1.lt b c).flatMap (hG ps a b)
theorem hG_len (a b c : Pt) : (hG ps a b c).length ≤ 1 := by unfold hG; split <;> simp
theorem hF_is (g : GP ps) {a b c : Pt} (ha : a ∈ ps) (hb : b ∈ ps) (hc : c ∈ ps) (s : List (List Pt)) (hs : s.length + (hG ps a b c).length ≤ lim) : hF ps a b s c = .ok (s ++ hG ps a b c) := by
  unfold hF
  unfold hG at hs ⊢
  by_cases hd : dOf a b c ∈ ps
  · have hm : ∀ p ∈ [a, b, c, dOf a b c], p ∈ ps := fun p hp => by
      simp only [List.mem_cons, List.not_mem_nil, or_false] at hp
      rcases hp with rfl | rfl | rfl | rfl <;> assumption
    have hall : ([a, b, c, dOf a b c].all fun p => memB p ps) = true := List.all_eq_true.mpr fun p hp => memB_t (hm p hp)
    rw [memB_t hd, if_pos rfl, is_house_is (n := 60) (by decide) fun p hp => g.box p (hm p hp), hall, Bool.and_true, Res.ok_bind]
    cases h : HB [a, b, c, dOf a b c] with
    | true =>
      have hc : dOf a b c ∈ ps ∧ true = true := ⟨hd, rfl⟩
      rw [h, if_pos hc, List.length_singleton] at hs
      rw [if_pos hc]
      simp only [if_true]
      exact pushL_is (by omega)
    | false =>
      have hc : ¬ (dOf a b c ∈ ps ∧ false = true) := fun q => Bool.noConfusion q.2
      rw [if_neg hc, List.append_nil]; rfl
  · have hc : ¬ (dOf a b c ∈ ps ∧ HB [a, b, c, dOf a b c] = true) := fun q => hd q.1
    rw [memB_f hd, if_neg hc, List.append_nil]; rfl
theorem h3_len (g : GP ps) (a b : Pt) : ((ps.filter fun c => Ord1.lt b c).flatMap (hG ps a b)).length ≤ 12 := by
  have h1 := flatMap_len (n := 1) (xs := ps.filter fun c => Ord1.lt b c) fun x _ => hG_len (ps := ps) a b x
  have h2 := List.length_filter_le (fun c => Ord1.lt b c) ps
  have := g.n12
  omega
theorem h2_len (g : GP ps) (a : Pt) : ((ps.filter fun b => Ord1.lt a b).flatMap fun b => (ps.filter fun c => Ord1.lt b c).flatMap (hG ps a b)).length ≤ 144 := by
  have h1 := flatMap_len (n := 12) (xs := ps.filter fun b => Ord1.lt a b) fun x _ => h3_len g a x
  have h2 := List.length_filter_le (fun b => Ord1.lt a b) ps
  have := g.n12
  omega
theorem houseL_len (g : GP ps) : (houseL ps).length ≤ 1728 := by
  have h1 := flatMap_len (n := 144) (xs := ps) fun x _ => h2_len g x
  have := g.n12
  unfold houseL
  omega
theorem houses_of_is (g : GP ps) : N.houses_of ps = .ok (sortP (houseL ps)) := by
  have lb := lim_big
  have n12 := g.n12
  unfold N.houses_of
  dsimp only
  rw [foldR_enum (g := fun s a => foldR (fun s b => foldR (hF ps a b) (ps.filter fun c => Ord1.lt b c) s) (ps.filter fun b => Ord1.lt a b) s) fun k a hk s => ?_]
  · rw [foldR_flat (B := lim) (g := fun a => (ps.filter fun b => Ord1.lt a b).flatMap fun b => (ps.filter fun c => Ord1.lt b c).flatMap (hG ps a b)) fun a ha s hs => ?_]
    · rw [List.nil_append, Res.ok_bind, sortL_list, Res.ok_bind]; rfl
    · rw [List.length_nil]
      have := houseL_len g
      unfold houseL at this
      omega
    · refine foldR_flat (B := lim) (fun b hb s hs => ?_) hs
      exact foldR_flat (B := lim) (fun c hc s hs => hF_is g ha (List.mem_filter.mp hb).1 (List.mem_filter.mp hc).1 s hs) hs
  · have hkl := (List.getElem?_eq_some_iff.mp hk).1
    unfold N.houses_of_l3
    have e : ((k : Int) + 1) = ((k + 1 : Nat) : Int) := by omega
    dsimp only
    rw [e, rangeR_is (by omega) (by omega) (by unfold lenL; omega) (by unfold lenL; omega), Res.ok_bind, Res.bind_ok, foldR_range (by omega) (g := fun s b => foldR (hF ps a b) (ps.filter fun c => Ord1.lt b c) s) fun j b hj hb s => ?_, up_drop g.up hk]
    have hjl := (List.getElem?_eq_some_iff.mp hb).1
    have e2 : ((j : Int) + 1) = ((j + 1 : Nat) : Int) := by omega
    unfold N.houses_of_l2
    rw [Res.bind_ok, e2, cutL_from (by omega), ← up_drop g.up hb]
    refine foldR_congr fun c hc s => ?_
    unfold N.houses_of_l1
    rw [getL_nat hb, Res.ok_bind]
    dsimp only
    rw [between_is, Res.ok_bind, moved_1, Res.ok_bind]
    simp only [Res.ok_bind, Res.bind_ok]
    rfl
theorem houses_is (g : GP ps) : N.houses ps = .ok (sortP (houseL ps)) := by
  unfold N.houses
  rw [check_ok g, Res.ok_bind, houses_of_is g]; rfl
theorem mem_houseL {l : List Pt} : l ∈ houseL ps ↔ HB l = true ∧ ∀ p ∈ l, p ∈ ps := by
  unfold houseL
  constructor
  · intro h
    obtain ⟨a, ha, h⟩ := List.mem_flatMap.mp h
    obtain ⟨b, hb, h⟩ := List.mem_flatMap.mp h
    obtain ⟨c, hc, h⟩ := List.mem_flatMap.mp h
    unfold hG at h
    split at h
    · rename_i q
      rw [List.mem_singleton.mp h]
      refine ⟨q.2, fun p hp => ?_⟩
      simp only [List.mem_cons, List.not_mem_nil, or_false] at hp
      rcases hp with rfl | rfl | rfl | rfl
      · exact ha
      · exact (List.mem_filter.mp hb).1
      · exact (List.mem_filter.mp hc).1
      · exact q.1
    · simp at h
  · intro ⟨h, hm⟩
    obtain ⟨a, b, c, d, rfl, h1, h2, h3, h4, h5⟩ := hb_of h
    have ed : dOf a b c = d := by
      unfold dOf
      rw [← h5, Int.add_sub_assoc, Int.add_sub_assoc]
    refine List.mem_flatMap.mpr ⟨a, hm a (by simp), List.mem_flatMap.mpr ⟨b, List.mem_filter.mpr ⟨hm b (by simp), h1⟩, List.mem_flatMap.mpr ⟨c, List.mem_filter.mpr ⟨hm c (by simp), h2⟩, ?_⟩⟩⟩
    unfold hG
    rw [ed, if_pos ⟨hm d (by simp), h⟩]
    exact List.mem_singleton.mpr rfl
theorem nodup_flat {β γ : Type} {f : β → List γ} {l : List β} (key : γ → Option β) (hl : l.Nodup) (h1 : ∀ a ∈ l, (f a).Nodup) (h2 : ∀ a ∈ l, ∀ x ∈ f a, key x = some a) : (l.flatMap f).Nodup := by
  refine List.pairwise_flatMap.mpr ⟨h1, List.Pairwise.imp_of_mem (fun {a b} ha hb ne x hx y hy e => ?_) hl⟩
  subst e
  have q1 := h2 a ha x hx
  have q2 := h2 b hb x hy
  rw [q1] at q2
  exact ne (Option.some.inj q2)
theorem houseL_nodup (g : GP ps) : (houseL ps).Nodup := by
  have nd := nodup_of_lt g.up
  have key : ∀ {a b c : Pt} {x : List Pt}, x ∈ hG ps a b c → x = [a, b, c, dOf a b c] := fun h => by
    unfold hG at h
    split at h
    · exact List.mem_singleton.mp h
    · simp at h
  unfold houseL
  refine nodup_flat (fun x => x[0]?) nd (fun a ha => nodup_flat (fun x => x[1]?) (nd.filter _) (fun b hb => nodup_flat (fun x => x[2]?) (nd.filter _) (fun c hc => ?_) fun c hc x hx => ?_) fun b hb x hx => ?_) fun a ha x hx => ?_
  · unfold hG; split <;> simp
  · rw [key hx]; rfl
  · obtain ⟨c, _, hx⟩ := List.mem_flatMap.mp hx
    rw [key hx]; rfl
  · obtain ⟨b, _, hx⟩ := List.mem_flatMap.mp hx
    obtain ⟨c, _, hx⟩ := List.mem_flatMap.mp hx
    rw [key hx]; rfl
/-! ### the law's houses -/
structure Subs (xs : List Pt) (s : List (List Pt)) : Prop where
  mem : ∀ l, l ∈ s ↔ l.Sublist xs ∧ l.length ≤ 4
  nd : s.Nodup
  len : s.length ≤ 2 ^ xs.length
theorem sub_snoc {xs l : List Pt} {p : Pt} : l.Sublist (xs ++ [p]) ↔ l.Sublist xs ∨ ∃ l', l = l' ++ [p] ∧ l'.Sublist xs := by
  rw [List.sublist_append_iff]
  constructor
  · rintro ⟨l1, l2, rfl, h1, h2⟩
    have h3 : l2 = [] ∨ l2 = [p] := by
      cases h2 with
      | cons _ h => cases h; exact .inl rfl
      | cons_cons _ h => cases h; exact .inr rfl
    rcases h3 with rfl | rfl
    · left; rw [List.append_nil]; exact h1
    · exact .inr ⟨l1, rfl, h1⟩
  · rintro (h | ⟨l', rfl, h⟩)
    · exact ⟨l, [], (List.append_nil l).symm, h, List.nil_sublist _⟩
    · exact ⟨l', [p], rfl, h, List.Sublist.refl _⟩
theorem subs_step {xs : List Pt} {s : List (List Pt)} {p : Pt} (S : Subs xs s) (hp : p ∉ xs) (hl : xs.length < 12) : ∃ s', N._law_houses_l1 s p = .ok s' ∧ Subs (xs ++ [p]) s' := by
  have lb := lim_big
  have le := S.len
  have l2 : 2 ^ xs.length ≤ 2 ^ 11 := Nat.pow_le_pow_right (by decide) (by omega)
  have fl := List.length_filter_le (fun l : List Pt => decide (lenL l < 4)) s
  unfold N._law_houses_l1
  rw [lcR_pure (b := fun l : List Pt => decide (lenL l < 4)) (g := fun l => l ++ [p]) (fun _ _ => rfl) fun l hl4 hb => by
    have hb := of_decide_eq_true hb
    unfold lenL at hb
    rw [catL_is (by simp; omega)]; rfl]
  rw [Res.ok_bind, catL_is (by rw [List.length_map]; omega), Res.ok_bind]
  refine ⟨_, rfl, fun l => ?_, ?_, ?_⟩
  · rw [List.mem_append, S.mem, List.mem_map, sub_snoc]
    constructor
    · rintro (⟨h1, h2⟩ | ⟨l', h, rfl⟩)
      · exact ⟨.inl h1, h2⟩
      · obtain ⟨h1, h2⟩ := List.mem_filter.mp h
        have h2 := of_decide_eq_true h2
        unfold lenL at h2
        exact ⟨.inr ⟨l', rfl, ((S.mem l').mp h1).1⟩, by simp; omega⟩
    · rintro ⟨h1 | ⟨l', rfl, h1⟩, h2⟩
      · exact .inl ⟨h1, h2⟩
      · simp at h2
        exact .inr ⟨l', List.mem_filter.mpr ⟨(S.mem l').mpr ⟨h1, by omega⟩, decide_eq_true (by unfold lenL; omega)⟩, rfl⟩
  · refine List.nodup_append.mpr ⟨S.nd, ?_, ?_⟩
    · exact List.pairwise_map.mpr ((S.nd.filter _).imp fun ne e => ne (List.append_cancel_right e))
    · intro a ha b hb e
      subst e
      obtain ⟨l', _, rfl⟩ := List.mem_map.mp hb
      exact hp (((S.mem _).mp ha).1.subset (by simp))
  · rw [List.length_append, List.length_map, List.length_append, List.length_singleton, Nat.pow_succ]
    omega
theorem subs_all (g : GP ps) : ∃ s, foldR N._law_houses_l1 ps [([] : List Pt)] = .ok s ∧ Subs ps s := by
  have nd := nodup_of_lt g.up
  obtain ⟨s, e, h⟩ := foldR_invN (f := N._law_houses_l1) (I := fun k s => Subs (ps.take k) s) (xs := ps) (s := [([] : List Pt)]) (n := 0) (fun k p hk s S => by
    have hkl := (List.getElem?_eq_some_iff.mp hk).1
    rw [Nat.zero_add] at S ⊢
    have e := List.take_append_getElem (l := ps) (i := k) hkl
    have n12 := g.n12
    rw [(List.getElem?_eq_some_iff.mp hk).2] at e
    rw [← e]
    refine subs_step S (fun hm => ?_) (by rw [List.length_take]; omega)
    have nd2 : (ps.take k ++ [p]).Nodup := by rw [e]; exact nd.sublist (List.take_sublist _ _)
    exact (List.nodup_append.mp nd2).2.2 p hm p (by simp) rfl) ⟨fun l => by
      rw [List.take_zero, List.sublist_nil, List.mem_singleton]
      exact ⟨fun e => ⟨e, by rw [e]; simp⟩, fun h => h.1⟩, by simp, by simp⟩
  rw [Nat.zero_add, List.take_length] at h
  exact ⟨s, e, h⟩
theorem law_houses_is (g : GP ps) : N._law_houses ps = .ok (sortP (houseL ps)) := by
  obtain ⟨s, e, S⟩ := subs_all g
  unfold N._law_houses
  dsimp only
  rw [e, Res.ok_bind, lcR_filter (b := HB) fun l hl => ?_]
  · rw [Res.ok_bind, sortL_list, Res.ok_bind]
    refine congrArg Res.ok (sortP_congr ((List.perm_ext_iff_of_nodup (S.nd.filter _) (houseL_nodup g)).mpr fun l => ?_))
    rw [List.mem_filter, S.mem, mem_houseL]
    constructor
    · rintro ⟨⟨h1, h2⟩, h3⟩
      exact ⟨h3, fun p hp => h1.subset hp⟩
    · rintro ⟨h1, h2⟩
      obtain ⟨a, b, c, d, rfl, q1, q2, q3, _⟩ := hb_of h1
      exact ⟨⟨up_sublist g.up (up4.mpr (by rw [q1, q2, q3]; rfl)) h2, by simp⟩, h1⟩
  · rw [law_is (n := 60) (by decide) fun p hp => g.box p (((S.mem l).mp hl).1.subset hp)]; rfl
theorem houses_sh (g : GP ps) : Sh (toD (sortP (houseL ps))) (37 * 1728) := sh_rows (fun r hr => by
  obtain ⟨h1, h2⟩ := mem_houseL.mp (mem_sortP.mp hr)
  obtain ⟨a, b, c, d, rfl, _⟩ := hb_of h1
  exact ⟨by simp, fun p hp => g.box p (h2 p hp)⟩) (by rw [sortP_len]; exact houseL_len g)
end
end Law
end
section
set_option Elab.async false
set_option linter.all false
set_option maxRecDepth 100000
set_option maxHeartbeats 1000000
noncomputable section
namespace Law
open Vs.Enc (toD)
open PySem PySem.Spec PyProof.Rows Vs
theorem mul_le {n x y : Int} (h1 : -n ≤ x) (h2 : x ≤ n) (h3 : -n ≤ y) (h4 : y ≤ n) : -(n * n) ≤ x * y ∧ x * y ≤ n * n := by
  have hx : x.natAbs ≤ n.natAbs := by omega
  have hy : y.natAbs ≤ n.natAbs := by omega
  have h := Nat.mul_le_mul hx hy
  rw [← Int.natAbs_mul, ← Int.natAbs_mul] at h
  have : 0 ≤ n * n := Int.mul_nonneg (by omega) (by omega)
  omega
theorem lagr {a b c d : Int} (h : a * c + b * d = 0) : (a * d - b * c) * (a * d - b * c) = (a * a + b * b) * (c * c + d * d) := by
  have e : (a * d - b * c) * (a * d - b * c) + (a * c + b * d) * (a * c + b * d) = (a * a + b * b) * (c * c + d * d) := by grind
  rw [h] at e
  simpa using e
theorem absI_is (x : Int) : absI x = (x.natAbs : Int) := by unfold absI; split <;> omega
theorem root_is {f s : Int} {m : Nat} (hf : -big < f ∧ f < big) (hm : (m : Int) < big) (e : (m : Int) * m = f * s) : ∀ (r k : Nat), k + r = m → whileR (N.law_c2 f s) N.law_l2 (some (k : Int)) = .ok (some (m : Int)) := by
  have c2 : ∀ k : Nat, k ≤ m → N.law_c2 f s (some (k : Int)) = .ok (decide ((k : Int) * k < (m : Int) * m)) := fun k hk => by
    unfold N.law_c2
    show (Res.ok (k : Int) >>= fun a => Res.ok (k : Int) >>= fun b => _) = _
    rw [Res.ok_bind, Res.ok_bind, mulI_l (by unfold big at *; omega) (by omega), Res.ok_bind, mulI_l hf.1 hf.2, Res.ok_bind, e]
  intro r
  induction r with
  | zero =>
    intro k hk
    have : k = m := by omega
    subst this
    refine whileR_stop ?_
    rw [c2 k (Nat.le_refl _), decide_eq_false (Int.lt_irrefl _)]
  | succ r ih =>
    intro k hk
    have hlt : k * k < m * m := Nat.mul_self_lt_mul_self (by omega)
    rw [whileR_step (s' := some ((k + 1 : Nat) : Int)) (by
      rw [c2 k (by omega), decide_eq_true (by exact_mod_cast hlt)]) (by
      unfold N.law_l2
      show (Res.ok (k : Int) >>= _) = _
      rw [Res.ok_bind, Int.natCast_add]; rfl)]
    exact ih (k + 1) (by omega)
section
variable {ps : List Pt}
/-- what space tells -/
def spaceV (ps l : List Pt) : Option Int := match l with
  | [a, b, c, d] => if (HB [a, b, c, d] && [a, b, c, d].all fun p => memB p ps) = true then some (((b.1 - a.1) * (c.2 - a.2) - (b.2 - a.2) * (c.1 - a.1)).natAbs : Int) else none
  | _ => none
theorem spaceV_no {l : List Pt} (h : (HB l && l.all fun p => memB p ps) = false) : spaceV ps l = none := by
  unfold spaceV
  split
  · rw [h]; rfl
  · rfl
theorem spaceV_yes {a b c d : Pt} (h : (HB [a, b, c, d] && [a, b, c, d].all fun p => memB p ps) = true) : spaceV ps [a, b, c, d] = some (((b.1 - a.1) * (c.2 - a.2) - (b.2 - a.2) * (c.1 - a.1)).natAbs : Int) := by
  unfold spaceV
  dsimp only
  rw [h]; rfl
theorem bound2 {n x y : Int} (h1 : 0 ≤ x) (h2 : x ≤ n) (h3 : 0 ≤ y) (h4 : y ≤ n) : -n ≤ x - y ∧ x - y ≤ n := by omega
theorem space_is (g : GP ps) {n : Int} (hn : n < 1000) {l : List Pt} (hb : ∀ p ∈ l, Box n p) : N.space ps l = .ok (spaceV ps l) := by
  unfold N.space
  rw [check_ok g, Res.ok_bind, is_house_is hn hb, Res.ok_bind]
  cases h : (HB l && l.all fun p => memB p ps) with
  | false =>
    rw [spaceV_no h]; rfl
  | true =>
    obtain ⟨a, b, c, d, rfl, h1, h2, h3, h4, h5⟩ := hb_of (Bool.and_eq_true_iff.mp h).1
    rw [spaceV_yes h]
    simp only [Bool.not_true, Bool.false_eq_true, if_false]
    have ba := hb a (by simp)
    have bb := hb b (by simp)
    have m1 := dif_big hn bb.1 bb.2.1 ba.1 ba.2.1
    have m2 := dif_big hn bb.2.2.1 bb.2.2.2 ba.2.2.1 ba.2.2.2
    have g0 : getL [a, b, c, d] 0 = .ok a := rfl
    have g1 : getL [a, b, c, d] 1 = .ok b := rfl
    have g2 : getL [a, b, c, d] 2 = .ok c := rfl
    rw [g0, Res.ok_bind, g1, Res.ok_bind, between_is, Res.ok_bind, Res.ok_bind, g2, Res.ok_bind, between_is, Res.ok_bind]
    dsimp only
    rw [mulI_l m1.1 m1.2, Res.ok_bind, mulI_l m2.1 m2.2, Res.ok_bind, absI_is]
theorem spaceV_sh {n : Int} (hn : n < 1000) {l : List Pt} (hb : ∀ p ∈ l, Box n p) : ∃ t, reprR (spaceV ps l) = .ok t := by
  cases h : (HB l && l.all fun p => memB p ps) with
  | false =>
    rw [spaceV_no h]
    exact ⟨_, reprR_sh Sh.none (by decide)⟩
  | true =>
    obtain ⟨a, b, c, d, rfl, _⟩ := hb_of (Bool.and_eq_true_iff.mp h).1
    rw [spaceV_yes h]
    have ba := hb a (by simp)
    have bb := hb b (by simp)
    have bc := hb c (by simp)
    have n0 : 0 ≤ n := by have := ba.1; have := ba.2.1; omega
    have n1 := bound2 bb.1 bb.2.1 ba.1 ba.2.1
    have n2 := bound2 bb.2.2.1 bb.2.2.2 ba.2.2.1 ba.2.2.2
    have n3 := bound2 bc.1 bc.2.1 ba.1 ba.2.1
    have n4 := bound2 bc.2.2.1 bc.2.2.2 ba.2.2.1 ba.2.2.2
    have q1 := mul_le n1.1 n1.2 n4.1 n4.2
    have q2 := mul_le n2.1 n2.2 n3.1 n3.2
    have q3 := mul_le (n := 1000) (x := n) (y := n) (by omega) (by omega) (by omega) (by omega)
    exact ⟨_, reprR_sh (Sh.some (Sh.int (by omega) (by omega))) (by decide)⟩
theorem l3_ok (g : GP ps) {n : Int} (hn : n < 1000) {l : List Pt} (hb : ∀ p ∈ l, Box n p) : N.law_l3 ps () l = .ok (.nx ()) := by
  obtain ⟨t, et⟩ := spaceV_sh (ps := ps) hn hb
  have fin : ∀ v, v = spaceV ps l → (N.space ps l >>= fun τ83 => (reprR τ83) >>= fun τ84 => (reprR v) >>= fun τ85 => (if (!decide (τ84 = τ85)) = true then (Res.ok false) >>= fun o => .ok (Ctl.ex o) else
  (.ok (Ctl.nx ())))) = Res.ok (Ctl.nx () : Ctl Bool Unit) := fun v e => by
    rw [e, space_is g hn hb, Res.ok_bind, et, Res.ok_bind, Res.ok_bind, decide_eq_true rfl]; rfl
  unfold N.law_l3
  dsimp only
  rw [lcR_filter (b := fun p => !memB p ps) fun _ _ => rfl, Res.ok_bind]
  have e0 : decide (lenL (l.filter fun p => !memB p ps) = 0) = (l.all fun p => memB p ps) := by
    rw [Bool.eq_iff_iff, decide_eq_true_iff, List.all_eq_true]
    unfold lenL
    constructor
    · intro h p hp
      have h0 : l.filter (fun p => !memB p ps) = [] := List.length_eq_zero_iff.mp (by omega)
      have := List.filter_eq_nil_iff.mp h0 p hp
      simpa using this
    · intro h
      have : l.filter (fun p => !memB p ps) = [] := List.filter_eq_nil_iff.mpr fun p hp => by rw [h p hp]; decide
      rw [this]; rfl
  rw [e0]
  have e1 : (if (l.all fun p => memB p ps) = true then N._law_is_house l >>= fun τ58 => Res.ok τ58 else .ok false) = .ok (HB l && l.all fun p => memB p ps) := by
    cases (l.all fun p => memB p ps) with
    | true => rw [if_pos rfl, law_is hn hb, Bool.and_true]; rfl
    | false => rw [if_neg (by decide), Bool.and_false]
  rw [e1, Res.ok_bind]
  cases h : (HB l && l.all fun p => memB p ps) with
  | false =>
    rw [if_neg (by decide), Res.ok_bind]
    exact fin none (spaceV_no h).symm
  | true =>
    obtain ⟨a, b, c, d, rfl, h1, h2, h3, h4, h5⟩ := hb_of (Bool.and_eq_true_iff.mp h).1
    rw [if_pos rfl]
    have ba := hb a (by simp)
    have bb := hb b (by simp)
    have bc := hb c (by simp)
    have m1 := dif_big hn bb.1 bb.2.1 ba.1 ba.2.1
    have m2 := dif_big hn bb.2.2.1 bb.2.2.2 ba.2.2.1 ba.2.2.2
    have m3 := dif_big hn bc.1 bc.2.1 ba.1 ba.2.1
    have m4 := dif_big hn bc.2.2.1 bc.2.2.2 ba.2.2.1 ba.2.2.2
    have n1 := bound2 bb.1 bb.2.1 ba.1 ba.2.1
    have n2 := bound2 bb.2.2.1 bb.2.2.2 ba.2.2.1 ba.2.2.2
    have n3 := bound2 bc.1 bc.2.1 ba.1 ba.2.1
    have n4 := bound2 bc.2.2.1 bc.2.2.2 ba.2.2.1 ba.2.2.2
    have q1 := mul_le n1.1 n1.2 n4.1 n4.2
    have q2 := mul_le n2.1 n2.2 n3.1 n3.2
    have q4 := mul_le n1.1 n1.2 n1.1 n1.2
    have q5 := mul_le n2.1 n2.2 n2.1 n2.2
    have q3 := mul_le (n := 1000) (x := n) (y := n) (by omega) (by omega) (by omega) (by omega)
    show ((Res.ok (⟨a, b, c, d⟩ : U4 Pt Pt Pt Pt) >>= _) >>= _) = _
    rw [Res.ok_bind]
    dsimp only
    rw [mulI_l m1.1 m1.2, Res.ok_bind, mulI_l m2.1 m2.2, Res.ok_bind, mulI_l m3.1 m3.2, Res.ok_bind, mulI_l m4.1 m4.2, Res.ok_bind]
    rw [show (some (0 : Int)) = some ((0 : Nat) : Int) from rfl, root_is (m := ((b.1 - a.1) * (c.2 - a.2) - (b.2 - a.2) * (c.1 - a.1)).natAbs) (by unfold big; omega) (by unfold big; omega) ((Int.natAbs_mul_self' _).trans (lagr h4)) _ 0 (Nat.zero_add _), Res.ok_bind, Res.ok_bind]
    exact fin _ (spaceV_yes h).symm
/-! ### the middle -/
def dbl (ps : List Pt) (a z : Pt) : Pt := (a.1 + z.1, a.2 + z.2)
def midV (ps : List Pt) (a z : Pt) : Option Pt := if sortP (ps.map fun p => (a.1 + z.1 - p.1, a.2 + z.2 - p.2)) = ps then some (a.1 + z.1, a.2 + z.2) else none
theorem GP.ends (g : GP ps) : ∃ a z, ps[0]? = some a ∧ ps[ps.length - 1]? = some z ∧ getL ps 0 = .ok a ∧ getL ps (-(1 : Int)) = .ok z ∧ a ∈ ps ∧ z ∈ ps := by
  have n1 := g.n1
  have h0 : ps[0]? = some (ps[0]'(by omega)) := List.getElem?_eq_getElem _
  have h1 : ps[ps.length - 1]? = some (ps[ps.length - 1]'(by omega)) := List.getElem?_eq_getElem _
  have hn : ps ≠ [] := fun e => by rw [e] at n1; simp at n1
  refine ⟨_, _, h0, h1, getL_nat (k := 0) h0, ?_, List.mem_of_getElem? h0, List.mem_of_getElem? h1⟩
  rw [show (-(1 : Int)) = -1 from rfl, getL_neg1 hn, List.getLast_eq_getElem hn]
theorem middle_is (g : GP ps) {a z : Pt} (ha : getL ps 0 = .ok a) (hz : getL ps (-(1 : Int)) = .ok z) : N.middle ps = .ok (midV ps a z) := by
  unfold N.middle
  rw [check_ok g, Res.ok_bind, ha, Res.ok_bind, hz, Res.ok_bind, Res.ok_bind, Res.ok_bind]
  dsimp only
  rw [lcR_map (g := fun p : Pt => (a.1 + z.1 - p.1, a.2 + z.2 - p.2)) fun _ _ => rfl, Res.ok_bind, sortL_pair, Res.ok_bind]
  unfold midV
  by_cases h : sortP (ps.map fun p => (a.1 + z.1 - p.1, a.2 + z.2 - p.2)) = ps
  · rw [if_pos h, decide_eq_true h]; rfl
  · rw [if_neg h, decide_eq_false h]; rfl
theorem midV_sh (g : GP ps) {a z : Pt} (ha : a ∈ ps) (hz : z ∈ ps) : ∃ t, reprR (midV ps a z) = .ok t := by
  have ba := g.box a ha
  have bz := g.box z hz
  unfold midV
  split
  · exact ⟨_, reprR_sh (Sh.some (sh_pt (n := 120) (by decide) ⟨by have := ba.1; have := bz.1; dsimp only; omega, by have := ba.2.1; have := bz.2.1; dsimp only; omega, by have := ba.2.2.1; have := bz.2.2.1; dsimp only; omega, by have := ba.2.2.2; have := bz.2.2.2; dsimp only; omega⟩)) (by decide)⟩
  · exact ⟨_, reprR_sh Sh.none (by decide)⟩
/-! ### posts and their turned ones -/
def flp (p : Pt) : Pt := (60 - p.1, 60 - p.2)
theorem flp_flp (p : Pt) : flp (flp p) = p := by
  obtain ⟨x, y⟩ := p
  show ((60 - (60 - x), 60 - (60 - y)) : Pt) = _
  rw [Prod.mk.injEq]; omega
theorem flp_lt {a b : Pt} (h : Ord1.lt a b = true) : Ord1.lt (flp b) (flp a) = true := by
  rw [lt_pt] at h ⊢
  unfold flp
  dsimp only
  omega
def bothL (ps : List Pt) : List Pt := sortS (ps.take 6 ++ (ps.take 6).map flp)
theorem both_flip : (bothL ps).reverse.map flp = bothL ps := by
  have u : Up (bothL ps) := sortS_lt' _
  refine rise_uniq ?_ u fun k => ?_
  · refine List.pairwise_map.mpr ((List.pairwise_reverse.mpr u).imp fun h => flp_lt h)
  · rw [List.mem_map]
    unfold bothL
    constructor
    · rintro ⟨p, hp, rfl⟩
      rw [List.mem_reverse, mem_sortS, List.mem_append, List.mem_map] at hp
      rw [mem_sortS, List.mem_append, List.mem_map]
      rcases hp with h | ⟨q, h, rfl⟩
      · exact .inr ⟨p, h, rfl⟩
      · rw [flp_flp]; exact .inl h
    · intro hk
      refine ⟨flp k, ?_, flp_flp k⟩
      rw [mem_sortS, List.mem_append, List.mem_map] at hk
      rw [List.mem_reverse, mem_sortS, List.mem_append, List.mem_map]
      rcases hk with h | ⟨q, h, rfl⟩
      · exact .inr ⟨k, h, rfl⟩
      · rw [flp_flp]; exact .inl h
theorem both_gp (g : GP ps) : GP (bothL ps) := by
  have n1 := g.n1
  refine ⟨?_, ?_, fun p hp => ?_, sortS_lt' _⟩
  · obtain ⟨a, z, h0, _⟩ := g.ends
    have : a ∈ bothL ps := by
      unfold bothL
      rw [mem_sortS, List.mem_append]
      left
      refine List.mem_of_getElem? (i := 0) ?_
      rw [List.getElem?_take, if_pos (by decide), h0]
    exact List.length_pos_of_mem this
  · unfold bothL
    rw [sortS_len]
    have := dedup_le (ps.take 6 ++ (ps.take 6).map flp)
    rw [List.length_append, List.length_map, List.length_take] at this
    omega
  · unfold bothL at hp
    rw [mem_sortS, List.mem_append, List.mem_map] at hp
    rcases hp with h | ⟨q, h, rfl⟩
    · exact g.box p (List.mem_of_mem_take h)
    · obtain ⟨h1, h2, h3, h4⟩ := g.box q (List.mem_of_mem_take h)
      exact ⟨by show 0 ≤ 60 - q.1; omega, by show 60 - q.1 ≤ 60; omega, by show 0 ≤ 60 - q.2; omega, by show 60 - q.2 ≤ 60; omega⟩
theorem both_mid (g : GP ps) : N.middle (bothL ps) = .ok (some (60, 60)) := by
  have gb := both_gp g
  obtain ⟨a, z, h0, h1, ga, gz, _, _⟩ := gb.ends
  have n1 := gb.n1
  have e : a = flp z := by
    have h := congrArg (fun l : List Pt => l[0]?) (both_flip (ps := ps))
    rw [List.getElem?_map, List.getElem?_reverse (by omega), h0] at h
    have h1' : (bothL ps)[(bothL ps).length - 1 - 0]? = some z := h1
    rw [h1'] at h
    exact (Option.some.inj h).symm
  rw [middle_is gb ga gz]
  have e1 : a.1 + z.1 = 60 := by rw [e]; unfold flp; dsimp only; omega
  have e2 : a.2 + z.2 = 60 := by rw [e]; unfold flp; dsimp only; omega
  unfold midV
  rw [e1, e2, if_pos]
  refine sortP_uniq (gb.up.imp fun h => OrdT.asym h) ?_
  have := both_flip (ps := ps)
  show (bothL ps).Perm ((bothL ps).map flp)
  have p1 : ((bothL ps).reverse.map flp).Perm ((bothL ps).map flp) := (List.reverse_perm _).map flp
  rw [this] at p1
  exact p1
end
end Law
end
section
set_option Elab.async false
set_option linter.all false
set_option maxRecDepth 100000
set_option maxHeartbeats 1000000
noncomputable section
namespace Law
open Vs.Enc (toD)
open PySem PySem.Spec PyProof.Rows Vs
theorem box_t (p : Pt) : ((if decide ((0 : Int) ≤ p.1) = true then (Res.ok (decide (p.1 ≤ (60 : Int)))) else .ok false) >>= fun τ39 => (if τ39 = true then ((if decide ((0 : Int) ≤ p.2) = true then (Res.ok (decide (p.2 ≤ (60 : Int)))) else .ok false) >>= fun τ40 => .ok τ40) else .ok false) >>= fun τ41 => .ok τ41) = Res.ok (decide (Box 60 p)) := by
  by_cases h1 : (0 : Int) ≤ p.1
  · by_cases h2 : p.1 ≤ 60
    · by_cases h3 : (0 : Int) ≤ p.2
      · by_cases h4 : p.2 ≤ 60
        · have hc : Box 60 p := ⟨h1, h2, h3, h4⟩
          simp only [decide_eq_true h1, decide_eq_true h2, decide_eq_true h3, decide_eq_true h4, decide_eq_true hc, if_true, Res.ok_bind]
        · have hc : ¬ Box 60 p := fun h => h4 h.2.2.2
          simp only [decide_eq_true h1, decide_eq_true h2, decide_eq_true h3, decide_eq_false h4, decide_eq_false hc, if_true, Res.ok_bind]
      · have hc : ¬ Box 60 p := fun h => h3 h.2.2.1
        simp only [decide_eq_true h1, decide_eq_true h2, decide_eq_false h3, decide_eq_false hc, if_true, Bool.false_eq_true, if_false, Res.ok_bind]
    · have hc : ¬ Box 60 p := fun h => h2 h.2.1
      simp only [decide_eq_true h1, decide_eq_false h2, decide_eq_false hc, if_true, Bool.false_eq_true, if_false, Res.ok_bind]
  · have hc : ¬ Box 60 p := fun h => h1 h.1
    simp only [decide_eq_false h1, decide_eq_false hc, Bool.false_eq_true, if_false, Res.ok_bind]
theorem posts_l1 (d : List Int) {wide : Int} (hw : 0 < wide) (s : List Pt) (x : Int) (hs : s.length ≤ 1000) : ∃ s', N._law_posts_l1 d 10 wide s x = .ok s' ∧ s'.length ≤ s.length + 4 ∧ ∀ p ∈ s', p ∈ s ∨ Box 60 p := by
  have lb := lim_big
  obtain ⟨a, a0, _, _⟩ := mix_ok (d := d) (10 + 2 + 8 * x) hw
  obtain ⟨b, b0, _, _⟩ := mix_ok (d := d) (10 + 3 + 8 * x) hw
  obtain ⟨dx, c0, c1, c2⟩ := mix_ok (d := d) (10 + 4 + 8 * x) (many := 4) (by decide)
  obtain ⟨dy, d0, d1, d2⟩ := mix_ok (d := d) (10 + 5 + 8 * x) (many := 4) (by decide)
  obtain ⟨by_, e0, e1, e2⟩ := mix_ok (d := d) (10 + 6 + 8 * x) (many := 2) (by decide)
  obtain ⟨w, f0, f1, f2⟩ := mix_ok (d := d) (10 + 7 + 8 * x) (many := 3) (by decide)
  have m8 : mulI 8 x = .ok (8 * x) := mulI_l (by decide) (by decide)
  unfold N._law_posts_l1
  rw [m8, Res.ok_bind, mix_is, a0, Res.ok_bind, Res.ok_bind, b0, Res.ok_bind, Res.ok_bind, c0, Res.ok_bind, Res.ok_bind, d0, Res.ok_bind, Res.ok_bind, e0, Res.ok_bind]
  dsimp only
  rw [mulI_l (a := 1 + by_) (b := dy) (by unfold big; omega) (by unfold big; omega), mulI_l (a := 1 + by_) (b := dx) (by unfold big; omega) (by unfold big; omega)]
  simp only [Res.ok_bind]
  rw [f0, Res.ok_bind]
  have fin : ∀ r : List Pt, r.length = 4 → ∃ s', (lcR (fun p : Pt => (if decide ((0 : Int) ≤ p.1) = true then (Res.ok (decide (p.1 ≤ (60 : Int)))) else .ok false) >>= fun τ39 => (if τ39 = true then ((if decide ((0 : Int) ≤ p.2) = true then (Res.ok (decide (p.2 ≤ (60 : Int)))) else .ok false) >>= fun τ40 => .ok τ40) else .ok false) >>= fun τ41 => .ok τ41) (fun ξ38 => .ok (ξ38.1, ξ38.2)) r >>= fun τ42 => catL s τ42 >>= fun found => .ok found) = .ok s' ∧ s'.length ≤ s.length + 4 ∧ ∀ p ∈ s', p ∈ s ∨ Box 60 p := fun r hr => by
    have fl := List.length_filter_le (fun p : Pt => decide (Box 60 p)) r
    rw [lcR_pure (b := fun p : Pt => decide (Box 60 p)) (g := fun p => p) (fun p _ => box_t p) (fun _ _ _ => rfl), Res.ok_bind, List.map_id', catL_is (by omega), Res.ok_bind]
    refine ⟨_, rfl, by rw [List.length_append]; omega, fun p hp => ?_⟩
    rcases List.mem_append.mp hp with h | h
    · exact .inl h
    · exact .inr (of_decide_eq_true (List.mem_filter.mp h).2)
  have t2 : mulI 2 dx = .ok (2 * dx) := mulI_l (by decide) (by decide)
  have t2' : mulI 2 dy = .ok (2 * dy) := mulI_l (by decide) (by decide)
  have t3 : mulI 3 dx = .ok (3 * dx) := mulI_l (by decide) (by decide)
  have t3' : mulI 3 dy = .ok (3 * dy) := mulI_l (by decide) (by decide)
  by_cases hz : w = 0
  · rw [decide_eq_true hz, if_pos rfl, t2, Res.ok_bind, t2', Res.ok_bind, t3, Res.ok_bind, t3', Res.ok_bind, Res.ok_bind]
    exact fin _ rfl
  · rw [decide_eq_false hz, if_neg (by decide), Res.ok_bind]
    exact fin _ rfl
theorem up_take {xs : List Pt} (h : Up xs) (k : Nat) : Up (xs.take k) := h.sublist (List.take_sublist _ _)
theorem posts_made (d : List Int) : ∃ ps, N._law_posts d 10 = .ok ps ∧ GP ps := by
  obtain ⟨w, e1, w0, w3⟩ := mix_ok (d := d) 10 (many := 3) (by decide)
  obtain ⟨n, e2, n0, n4⟩ := mix_ok (d := d) (10 + 1) (many := 4) (by decide)
  obtain ⟨wide, e3, hw⟩ : ∃ v, getL [(4 : Int), 7, 61] w = .ok v ∧ 0 < v := by
    rcases (show w = 0 ∨ w = 1 ∨ w = 2 by omega) with rfl | rfl | rfl
    · exact ⟨4, rfl, by decide⟩
    · exact ⟨7, rfl, by decide⟩
    · exact ⟨61, rfl, by decide⟩
  obtain ⟨s, e4, h1, h2⟩ := foldR_invN (f := N._law_posts_l1 d 10 wide) (I := fun k s => s.length ≤ 4 * k ∧ (4 * k ≤ 16 → True) ∧ ∀ p ∈ s, Box 60 p) (xs := rangeL 0 (1 + n)) (s := []) (n := 0) (fun k x hk s ⟨i1, i2, i3⟩ => by
    have hkl := (List.getElem?_eq_some_iff.mp hk).1
    rw [rangeL_length] at hkl
    obtain ⟨s', q1, q2, q3⟩ := posts_l1 d hw s x (by omega)
    exact ⟨s', q1, by omega, fun _ => trivial, fun p hp => (q3 p hp).elim (i3 p) id⟩) ⟨by simp, fun _ => trivial, by simp⟩
  obtain ⟨_, h2⟩ := h2
  rw [rangeL_length] at h1
  unfold N._law_posts
  dsimp only
  rw [mix_is, e1, Res.ok_bind, e3, Res.ok_bind, e2, Res.ok_bind, rangeR_is (by decide) (by decide) (by omega) (by omega), Res.ok_bind, e4, Res.ok_bind]
  have e5 : setT s = .ok s := by unfold setT bdL; exact if_pos (by omega)
  have e6 : sortT s = .ok (sortS s) := if_pos (.inl rfl)
  rw [e5, Res.ok_bind, e6, Res.ok_bind, show (some (12 : Int)) = some ((12 : Nat) : Int) from rfl, cutL_take]
  cases e : (sortS s).take 12 with
  | nil =>
    refine ⟨[(0, 0)], rfl, by simp, by simp, fun p hp => ?_, List.pairwise_singleton _ _⟩
    rw [List.mem_singleton.mp hp]
    exact ⟨by decide, by decide, by decide, by decide⟩
  | cons a l =>
    refine ⟨a :: l, rfl, by simp, ?_, fun p hp => ?_, ?_⟩
    · rw [← e, List.length_take]; omega
    · rw [← e] at hp
      exact h2 p (mem_sortS.mp (List.mem_of_mem_take hp))
    · rw [← e]; exact up_take (sortS_lt' _) 12
section
variable {ps : List Pt}
/-- bad lists of posts -/
theorem l4_ok (g : GP ps) {k : Int} (k0 : 0 ≤ k) (k1 : k < lenL ps) {way : Int} (h0 : 0 ≤ way) (h4 : way < 4) {b : Pt} (hb : ¬ Box 60 b) : N.law_l4 ps k way () b = .ok (.nx ()) := by
  have lb := lim_big
  have n12 := g.n12
  obtain ⟨j, rfl⟩ : ∃ j : Nat, k = (j : Int) := ⟨k.toNat, by omega⟩
  unfold lenL at k1
  unfold N.law_l4
  have e : (j : Int) + 1 = ((j + 1 : Nat) : Int) := by omega
  rw [cutL_to (by omega), catL_is (by simp; omega), Res.ok_bind, e, cutL_from (by omega), catL_is (by simp; omega), Res.ok_bind, word_post (check_out g (by omega) hb) h0 h4, Res.ok_bind, decide_eq_true rfl]
  rfl
theorem l5_ok (g : GP ps) {k : Int} (k0 : 0 ≤ k) (k1 : k < lenL ps) {way : Int} (h0 : 0 ≤ way) (h4 : way < 4) : N.law_l5 ps k () way = .ok (.nx ()) := by
  have lb := lim_big
  have n1 := g.n1
  have n12 := g.n12
  obtain ⟨a, z, _, hz, _⟩ := g.ends
  have r13 : repL [((9 : Int), (9 : Int))] (13 : Int) = .ok (List.replicate 13 ((9 : Int), (9 : Int))) := rfl
  have lp : foldC (N.law_l4 ps k way) [((61 : Int), (0 : Int)), ((0 : Int), (-(1 : Int))), ((0 : Int), (61 : Int))] () = .ok (.nx ()) := foldC_unit fun b hb => l4_ok g k0 k1 h0 h4 (by
    simp only [List.mem_cons, List.not_mem_nil, or_false] at hb
    rcases hb with rfl | rfl | rfl
    · exact fun h => absurd h.2.1 (by decide)
    · exact fun h => absurd h.2.2.1 (by decide)
    · exact fun h => absurd h.2.2.2 (by decide))
  have tw : (if (decide ((lenL ps) < (12 : Int))) = true then ((catL ps (cutL ps (some (-(1 : Int))) none)) >>= fun τ127 => (N._law_word way τ127) >>= fun τ128 => .ok (!decide (τ128 = ((Vs.ps "post"), (lenL ps))))) else .ok false) = Res.ok false := by
    by_cases h : ps.length < 12
    · rw [decide_eq_true (show lenL ps < 12 by unfold lenL; omega), if_pos rfl, cutL_neg1 hz, catL_is (by simp; omega), Res.ok_bind, word_post (check_twice g h hz) h0 h4, Res.ok_bind]
      show Res.ok (!decide ((Vs.ps "post", lenL ps) = (Vs.ps "post", lenL ps))) = _
      rw [decide_eq_true rfl]; rfl
    · rw [decide_eq_false (show ¬ lenL ps < 12 by unfold lenL; omega), if_neg (by decide)]
  unfold N.law_l5
  rw [word_size check_none h0 h4, Res.ok_bind, decide_eq_true rfl, r13, Res.ok_bind, word_size check_many h0 h4, Res.ok_bind, decide_eq_true rfl, tw, lp]
  rfl
/-- lists whose posts lie within -/
theorem l1_box {n : Int} (s : List (List Pt)) (hs : s.length ≤ 1000) {h : List Pt} (hh : HB h = true) : ∃ a b c d, h = [a, b, c, d] ∧ N.law_l1 s h = .ok (s ++ [h.reverse, [a, b, c] ++ [(d.1 + 1, d.2)], [a, b] ++ [d, c]]) := by
  have lb := lim_big
  obtain ⟨a, b, c, d, rfl, _⟩ := hb_of hh
  refine ⟨a, b, c, d, rfl, ?_⟩
  unfold N.law_l1
  have g3 : getL [a, b, c, d] 3 = .ok d := rfl
  have g2 : getL [a, b, c, d] 2 = .ok c := rfl
  rw [g3, Res.ok_bind, Res.ok_bind, show (some (3 : Int)) = some ((3 : Nat) : Int) from rfl, cutL_take, catL_is (by simp; omega), Res.ok_bind, Res.ok_bind, g2, Res.ok_bind, show (some (2 : Int)) = some ((2 : Nat) : Int) from rfl, cutL_take, catL_is (by simp; omega), Res.ok_bind, catL_is (by simp; omega)]
  rfl
end
theorem law_ok {ns : List Int} (hn : ns.length ≤ 63) : N.law ⟨ns⟩ = .ok true := by
  have lb := lim_big
  obtain ⟨d, e0, _, _⟩ := draws_ok hn
  obtain ⟨ps, e1, g⟩ := posts_made d
  have n1 := g.n1
  have n12 := g.n12
  obtain ⟨a, z, _, _, ga, gz, ha, hz⟩ := g.ends
  obtain ⟨t1, r1⟩ := rows_repr g
  have r2 := reprR_sh (houses_sh g) (by decide)
  have r0 := reprR_sh (sh_pts (n := 60) (by decide) g.box n12) (by decide)
  obtain ⟨t3, r3⟩ := midV_sh g ha hz
  have told : ∀ h ∈ (sortP (houseL ps)).take 3, HB h = true ∧ ∀ p ∈ h, p ∈ ps := fun h hh => mem_houseL.mp (mem_sortP.mp (List.mem_of_mem_take hh))
  have tl : ((sortP (houseL ps)).take 3).length ≤ 3 := by rw [List.length_take]; omega
  have up61 : ∀ p : Pt, Box 60 p → Box 61 p := fun p h => ⟨h.1, by have := h.2.1; omega, h.2.2.1, by have := h.2.2.2; omega⟩
  have all4 : repL [((61 : Int), (0 : Int))] (4 : Int) = .ok (List.replicate 4 ((61 : Int), (0 : Int))) := rfl
  -- the lists
  have L0 : ∀ l ∈ (sortP (houseL ps)).take 3 ++ [ps.take 4, ps.take 3, (ps.take 4).reverse, List.replicate 4 ((61 : Int), (0 : Int)), []], ∀ p ∈ l, Box 61 p := by
    intro l hl p hp
    rcases List.mem_append.mp hl with h | h
    · exact up61 p (g.box p ((told l h).2 p hp))
    · simp only [List.mem_cons, List.not_mem_nil, or_false] at h
      rcases h with rfl | rfl | rfl | rfl | rfl
      · exact up61 p (g.box p (List.mem_of_mem_take hp))
      · exact up61 p (g.box p (List.mem_of_mem_take hp))
      · exact up61 p (g.box p (List.mem_of_mem_take (List.mem_reverse.mp hp)))
      · rw [(List.mem_replicate.mp hp).2]; exact ⟨by decide, by decide, by decide, by decide⟩
      · simp at hp
  obtain ⟨LS, l1, _, l3⟩ := foldR_invN (f := N.law_l1) (I := fun k s => s.length ≤ 8 + 3 * k ∧ ∀ l ∈ s, ∀ p ∈ l, Box 61 p) (xs := (sortP (houseL ps)).take 3) (s := (sortP (houseL ps)).take 3 ++ [ps.take 4, ps.take 3, (ps.take 4).reverse, List.replicate 4 ((61 : Int), (0 : Int)), []]) (n := 0) (fun k h hk s ⟨i1, i2⟩ => by
    have hkl := (List.getElem?_eq_some_iff.mp hk).1
    obtain ⟨q1, q2⟩ := told h (List.mem_of_getElem? hk)
    obtain ⟨a, b, c, d, rfl, e⟩ := l1_box (n := 61) s (by omega) q1
    refine ⟨_, e, by simp; omega, fun l hl p hp => ?_⟩
    have bx : ∀ x, x ∈ [a, b, c, d] → Box 61 x := fun x hx => up61 x (g.box x (q2 x hx))
    rcases List.mem_append.mp hl with h | h
    · exact i2 l h p hp
    · simp only [List.mem_cons, List.not_mem_nil, or_false] at h
      rcases h with rfl | rfl | rfl
      · exact bx p (List.mem_reverse.mp hp)
      · rcases List.mem_append.mp hp with h | h
        · simp only [List.mem_cons, List.not_mem_nil, or_false] at h
          exact bx p (by rcases h with rfl | rfl | rfl <;> simp)
        · rw [List.mem_singleton.mp h]
          obtain ⟨u1, u2, u3, u4⟩ := g.box d (q2 d (by simp))
          exact ⟨by show 0 ≤ d.1 + 1; omega, by show d.1 + 1 ≤ 61; omega, u3, by show d.2 ≤ 61; omega⟩
      · rcases List.mem_append.mp hp with h | h
        · simp only [List.mem_cons, List.not_mem_nil, or_false] at h
          exact bx p (by rcases h with rfl | rfl <;> simp)
        · simp only [List.mem_cons, List.not_mem_nil, or_false] at h
          exact bx p (by rcases h with rfl | rfl <;> simp)) ⟨by simp; omega, L0⟩
  have lp3 : foldC (N.law_l3 ps) LS () = .ok (.nx ()) := foldC_unit fun l hl => l3_ok g (n := 61) (by decide) (l3 l hl)
  obtain ⟨k, k0, k1, k2⟩ := mix_ok (d := d) 80 (many := lenL ps) (by unfold lenL; omega)
  have lp5 : foldC (N.law_l5 ps k) (rangeL 0 4) () = .ok (.nx ()) := foldC_unit fun x hx => by
    have := mem_rangeL.mp hx
    exact l5_ok g k1 k2 this.1 this.2
  unfold N.law
  rw [draws_is, e0, Res.ok_bind, e1, Res.ok_bind, r0, Res.ok_bind, law_houses_is g, Res.ok_bind, rows_is g, Res.ok_bind, r1, Res.ok_bind, law_rows_is g, Res.ok_bind, r1, Res.ok_bind, decide_eq_true rfl, houses_is g, Res.ok_bind, r2, Res.ok_bind, Res.ok_bind, decide_eq_true rfl]
  rw [Bool.not_true, if_neg Bool.false_ne_true, Res.ok_bind, if_neg Bool.false_ne_true]
  rw [all4, Res.ok_bind, show (some (3 : Int)) = some ((3 : Nat) : Int) from rfl, show (some (4 : Int)) = some ((4 : Nat) : Int) from rfl, cutL_take, cutL_take, cutL_take, catL_is (by simp; omega), Res.ok_bind, l1, Res.ok_bind, lp3, Res.ok_bind]
  show (getL ps 0 >>= _) = _
  rw [ga, Res.ok_bind, gz, Res.ok_bind, Res.ok_bind, Res.ok_bind]
  dsimp only
  rw [lcR_map (g := fun p : Pt => (a.1 + z.1 - p.1, a.2 + z.2 - p.2)) fun _ _ => rfl, Res.ok_bind, sortL_pair, Res.ok_bind]
  have em : (if decide (sortP (ps.map fun p => (a.1 + z.1 - p.1, a.2 + z.2 - p.2)) = ps) = true then Res.ok (some (a.1 + z.1, a.2 + z.2)) else Res.ok none) = Res.ok (midV ps a z) := by
    unfold midV
    by_cases h : sortP (ps.map fun p => (a.1 + z.1 - p.1, a.2 + z.2 - p.2)) = ps
    · rw [if_pos h, decide_eq_true h]; rfl
    · rw [if_neg h, decide_eq_false h]; rfl
  rw [em, Res.ok_bind, middle_is g ga gz, Res.ok_bind, r3, Res.ok_bind, Res.ok_bind, decide_eq_true rfl, Bool.not_true, if_neg Bool.false_ne_true]
  rw [show (some (6 : Int)) = some ((6 : Nat) : Int) from rfl, cutL_take, lcR_map (g := fun p : Pt => p) fun _ _ => rfl, Res.ok_bind, lcR_map (f := fun p : Pt => Res.ok ((60 - p.1, 60 - p.2) : Pt)) (g := flp) fun _ _ => rfl, Res.ok_bind, List.map_id', catL_is (by simp; omega), Res.ok_bind]
  have e5 : setT (ps.take 6 ++ (ps.take 6).map flp) = .ok (ps.take 6 ++ (ps.take 6).map flp) := by unfold setT bdL; exact if_pos (by simp; omega)
  have e6 : sortT (ps.take 6 ++ (ps.take 6).map flp) = .ok (bothL ps) := if_pos (.inl rfl)
  rw [e5, Res.ok_bind, e6, Res.ok_bind, both_mid g, Res.ok_bind, decide_eq_true rfl, Bool.not_true, if_neg Bool.false_ne_true]
  rw [mix_is, k0, Res.ok_bind, rangeR_is (by decide) (by decide) (by decide) (by decide), Res.ok_bind, lp5, Res.ok_bind]
  show (Res.ok _ >>= fun x => Res.ok (decide (x = _))) = _
  rw [Res.ok_bind, decide_eq_true rfl]
theorem holds : PySem.Challenge.rw_dugtold_k76_whole_rows_and_houses_of_pos.Holds := law_end fun ns h => law_ok h
end Law
end
theorem PySem.Challenge.cw_dugtold_k76_whole_rows_and_houses_of_pos_holds : PySem.Challenge.rw_dugtold_k76_whole_rows_and_houses_of_pos.Holds := by
  exact Law.holds
