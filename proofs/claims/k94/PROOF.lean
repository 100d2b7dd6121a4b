import PyProof.Rows.All
import Wide.All
import OpenK.AllK
import Wide.FinOn
import PyProof.EqAt
import PyProof.EqKinds
import PyProof.TupleCall
import HandS.ForMost
import HandS.Exc
import HandS.Defaults
import HandS.HeadHook1
import KE.SortData
import PyProof.ReprReads
import HandS.SetFor
import HandS.Strs
import HandS.Iter
import HandS.SortInts
import PySem.PyData
import HandS.TupSets
import HandS.Star
import HandS.Deep
import HandS.Conv
import HandS.Style
import KE.DataCmp
import HandS.DictTup
import HandS.TryMany
import HandS.Ends
import HandS.HeadEnd
import HandS.RaiseMore
import PyProof.ReprRoads
import HandS.Dict
import HandS.More
import HandS.ExcSuper
import HandS.ExcInit
import HandS.ExcField
import KE.KExcSuper
import KE.KSuper
import HandS.HeadHook4
import PyProof.ReprBulk
import PyProof.Rows.StrJoinMade
import HandS.SetBool
import HandS.TupLen
import HandS.TryOnly
import HandS.Flow
import HandS.Zip
import HandS.Gcd
import HandS.Head2
import HandS.Head3
import KE.KStateDown
import PySem.Challenge.RW_dugtold_k94_whole_woods_of_one_master
set_option Elab.async false
section
set_option Elab.async false
set_option linter.all false
set_option maxRecDepth 100000
set_option maxHeartbeats 3200000
/-! Vs8: sets of ints: made of a list, any number of members below the scan's bound; sorted. -/
namespace Vs
open PySem PySem.Spec PyProof.Rows L2
abbrev setO0 (w : World) : Obj := { cls := .type "set", dict := none, data := .set #[] 0 (.fresh 0 0 (!w.params.followText "set-order")) }
abbrev hp1 (w : World) (s : Shared) : Heap := s.heap.push (setO0 w)
section
variable {P : Program} {w : World} {A : Around} {E : Value → Shared → Prop} {s : Shared}
theorem set_of_ints {l : Addr} {items : Array Value} (ns : List Int) {Q : Value → Shared → Prop} (hh : A.handled = none) (hl : s.heap.IsList l items) (hit : IntsAre items.toList ns) (hb : ns.length + 1 < scanBound)
    (h : ∀ (h' : Heap) (tk c : Nat), SetR w h' s.heap.objs.size (fun j => decide (j ∈ ns)) c → c ≤ ns.length → (∀ b o, s.heap.get? b = some o → h'.get? b = some o) → Q (.ref s.heap.objs.size) { s with heap := h', toks := tk }) :
    wpAny (model P w) A (call (.type "set") [.ref l]) Q E s := by
  have ez : items.size = ns.length := by
    have q := IntsAre.length hit
    rw [Array.length_toList] at q
    exact q
  obtain ⟨c, tl, m0⟩ := F.called_set.mro
  have m1 := F.called_set.made
  have m2 := F.called_set.sub
  refine wpAny_call (codeAny_of_tree ?_); show wpAny _ _ (callAny (.type "set") _) _ _ _; refine wpAny_pure ⟨Code.quiet_builtin _ (by decide +kernel), codeAny_builtin F.entry_type_call ?_⟩; rw [Around.under_plain (weight_type_call_type "set" [.ref l] []) rfl]
  have m3 := F.called_set.notType
  have m4 := F.called_set.canCreate
  have m5 := F.typeCall_set_1 (.ref l)
  repeat (any_goals first | assumption | wp_step)

  refine codeAny_mono (code_set_led1 (.ref l) (E := E) (Q₁ := fun ov s1 => ov = .ref s.heap.objs.size ∧ s1 = { s with heap := hp1 w s }) ⟨rfl, rfl⟩) fun r s1 hr1 => ?_
  cases r with
  | error e => exact hr1
  | ok fw =>
    cases fw with
    | ret ov =>
      obtain ⟨rfl, rfl⟩ := hr1
      have oS : (hp1 w s).get? s.heap.objs.size = some (setO0 w) := Heap.get?_push_size _ rfl
      have tS : Shared.TypeIs { s with heap := hp1 w s } (.ref s.heap.objs.size) "set" := ⟨_, oS, rfl⟩
      have m6 := F.called_set.init.lookup
      have m7 := F.called_set.init.bind (.ref s.heap.objs.size)
      repeat (any_goals first | assumption | wp_step)

      refine codeAny_mono (codeAny_call_builtin (R := wants (fun r s9 => r = .none ∧ ∃ h' tk c, s9 = { s with heap := h', toks := tk } ∧ SetR w h' s.heap.objs.size (fun j => decide (j ∈ ns)) c ∧ c ≤ ns.length ∧
          (∀ b o, s.heap.get? b = some o → h'.get? b = some o)) E) F.called_set.init.plain F.entry_set_init (check_set_init_1 tS ?_)) fun r9 s9 hr9 => ?_
      · obtain ⟨ob, eob, ecl, cap, edt⟩ := hl
        obtain ⟨k1, k2, k3, k4⟩ := ob
        simp only at ecl edt
        subst ecl; subst edt
        have eob1 : (hp1 w s).get? l = some { cls := .type "list", dict := k2, data := .seq items cap, slots := k4 } := Heap.get?_push_of_some _ eob
        have n1 := PySem.F.sub_list_set
        have n2 := PySem.F.sub_list_frozenset
        have n3 : (Value.type "list" == Value.type "dict") = false := by decide
        have isl : (hp1 w s).IsList l items := ⟨_, eob1, rfl, cap, rfl⟩
        unfold Builtin.«set.__init__» noKeywords Builtin.Frozenset.updateFrom; generalize ePI : pyIter = PI
        wp_walk
        subst ePI

        refine wpAny_pyIter_list isl ?_
        refine wpAny_bind (wpAny_runValue ?_); clear m4
        have lt0 : l < s.heap.objs.size := Heap.lt_size eob
        have hh9 : A.in1.in1.in1.handled = none := by simp [hh]
        have sz1 : (hp1 w s).objs.size = s.heap.objs.size + 1 := Heap.size_push ..
        have neI : l ≠ (hp1 w s).objs.size := by
          rw [Heap.size_push]; exact Nat.ne_of_lt (Nat.lt_succ_of_lt lt0)
        have nmS : s.heap.objs.size ∉ [(hp1 w s).objs.size, l] := by
          rw [Heap.size_push]; simp only [List.mem_cons, List.not_mem_nil, or_false, not_or]
          exact ⟨Nat.ne_of_lt (Nat.lt_succ_self _), Nat.ne_of_gt lt0⟩
        have val : ∀ (i : Nat) (v : Value), items[i]? = some v → ∃ k t, ns[i]? = some k ∧ v = .int k t := fun i v hv => by
          have hi : i < ns.length := by rw [← ez]; exact (Array.getElem?_eq_some_iff.mp hv).1
          have ⟨t, e⟩ := PyProof.Rows.IntsAre.int_at hit i v (by rw [Array.getElem?_toList]; exact hv)
          refine ⟨ns[i], t, List.getElem?_eq_getElem hi, ?_⟩; rw [e, List.getD_eq_getElem?_getD, List.getElem?_eq_getElem hi] <;> rfl
        refine set_update_ints ((Walks.list hh9 _ l neI items).toS) s.heap.objs.size
          nmS ns ez hb val (items.size - 0) 0 _ (by omega) (Nat.zero_le _)
          ⟨⟨_, Heap.get?_push_size _ rfl, rfl, rfl⟩, (isl.push _)⟩ ?hS0 ?hR
        case hS0 =>
          have gS : ((hp1 w s).push { cls := .type "list_iterator", data := .fields #[.ref l, .int 0 0] }).get? s.heap.objs.size
              = some (setO0 w) := Heap.get?_push_of_some _ oS
          exact ⟨0, Nat.le_refl 0, setR_new_at gS⟩
        case hR =>
          intro s' c1 mv lc rS
          obtain ⟨h', g9, d9, tk9, os9⟩ := s'
          have e1 : g9 = s.gens := mv.gens
          have e2 : d9 = s.drawn := mv.drawn
          have e3 : os9 = s.os := mv.os
          subst e1; subst e2; subst e3
          show wpAny _ _ _ _ _ _
          refine wpAny_pure ?_; show wpAny _ _ (ret Value.none) _ _ _
          rw [ez] at lc
          refine wpAny_pure ⟨rfl, h', tk9, c1, rfl, rS, lc, fun b o e => ?_⟩
          have b0 : b < s.heap.objs.size := Heap.lt_size e
          have b1 : b ≠ s.heap.objs.size := Nat.ne_of_lt b0
          have b2 : b ≠ (hp1 w s).objs.size := by
            rw [Heap.size_push]; exact Nat.ne_of_lt (Nat.lt_succ_of_lt b0)
          exact mv.heap b o (by simp only [List.mem_cons, List.mem_singleton, List.not_mem_nil, or_false, not_or]; exact ⟨b1, b2⟩) (Heap.get?_push_of_some _ (Heap.get?_push_of_some _ e))

      · cases r9 with
        | error e => exact hr9
        | ok fw2 =>
          cases fw2 with
          | ret r =>
            obtain ⟨rfl, h', tk, c1, rfl, rS, lc, kp⟩ := hr9
            repeat (any_goals first | assumption | wp_step)
            exact h _ _ _ rS lc kp
          | _ => exact hr9.elim
    | _ => exact hr1.elim


/-- sorted(set), any number of ints -/
theorem sorted_ints {S : Int → Bool} {n : Nat} {Q : Value → Shared → Prop} (R : SetR w s.heap a S n) (hh : A.handled = none) (hu : A.units + 8 < cLine)
    (hQ : ∀ s' p (out : Array Value) (c : Nat) (ns : List Int), (∀ b o, s.heap.get? b = some o → s'.heap.get? b = some o) → s'.gens = s.gens → s'.os = s.os → s.heap.objs.size ≤ p →
      s'.heap.get? p = some (seqObj "list" out c) → IntsAre out.toList ns → ns.Pairwise (· ≤ ·) → ns.Nodup → (∀ k, k ∈ ns ↔ S k = true) → ns.length = n → Q (.ref p) s') :
    wpAny (model P w) A (call (.builtin "sorted") [.ref a]) Q E s := by
  have ⟨o, es, ep, t, ho, hex, hd, g, nd, hm, hb, hf, hn, hr, hl⟩ := R; refine Calls.call_function_entry kind_sorted plain_sorted entry_sorted (args_sorted1 _) ?_
  unfold Builtin.«sorted»
  refine wpAny_bind (m := checkCount "sorted" 1 1 _) (wpAny_pure ?_); refine wpAny_bind (collect_set (A := A.in1) hh ⟨o, ho, hex.1, hd⟩ hf hb hr hl fun s1 vs k1 hz g1 o1 pm => ?_)
  have hvl : vs.length = n := by
    have q := pm.length_eq
    simpa [hn] using q
  have hI : IntsAre vs (vs.map Builtin.Re.reRawOf) := L2.ints_of vs fun v hv => by
    have ⟨e, he, q⟩ := List.mem_map.mp (pm.mem_iff.mp hv); obtain ⟨k, tk, q1, _⟩ := g e he
    exact ⟨k, tk, q.symm.trans q1⟩
  have pk : (vs.map Builtin.Re.reRawOf).Perm (es.toList.map keyOf) := by
    have q := pm.map Builtin.Re.reRawOf
    rw [List.map_map] at q; exact q
  have hlen : vs.length ≤ sizeLine := by rw [hvl, sizeLine_eq, ← hn]; unfold scanBound at hb; omega
  refine wpAny_bind (wpAny_newList ?_ hlen)
  have hoL : (s1.heap.push (seqObj "list" vs.toArray 0)).get? s1.heap.objs.size = some (seqObj "list" vs.toArray 0) := Heap.get?_push_size _ rfl
  have each : ∀ {us : List Value} {is : List Int}, IntsAre us is → PySem.W.EachIs (fun u i => ∃ t, u = Value.int i t) us is ∧ PySem.W.EachIs (fun u i => ∃ as, Reads (s1.heap.push (seqObj "list" vs.toArray 0)) u (.int i) as ∧ s1.heap.objs.size ∉ as) us is := fun h => by
    induction h with
    | nil => exact ⟨.nil, .nil⟩
    | cons i t _ ih => exact ⟨.cons ⟨t, rfl⟩ ih.1, .cons ⟨[], .int i t, by simp⟩ ih.2⟩
  obtain ⟨e1, e2⟩ := each hI
  have al : PySem.W.AllAlike ((vs.map Builtin.Re.reRawOf).map PyData.int) := PySem.W.AllAlike.of (enc := PyData.int) fun b b' => by simp [PySem.W.alike]
  refine wpAny_bind (wpAny_holding (PySem.W.list_sort_data (s := { s1 with heap := s1.heap.push (seqObj "list" vs.toArray 0) }) (enc := PyData.int) hoL e1 e2 al (PySem.W.Sortable.others fun b => ⟨fun h => (by cases h), fun _ h => (by cases h)⟩) (by rw [List.length_map]; exact hlen) (fun b _ => by
    rw [PyData.depth]
    show A.units + 1 + 1 + 0 < cLine
    omega) fun out ho2 eo => ?_))
  obtain ⟨c, hc⟩ := sortedHeap_at (vs := vs) (out := out.toArray) hoL
  have back : ∀ {us : List Value} {is : List Int}, PySem.W.EachIs (fun u i => ∃ t, u = Value.int i t) us is → IntsAre us is := fun h => by
    induction h with
    | nil => exact .nil
    | cons r _ ih => obtain ⟨t, rfl⟩ := r; exact .cons _ t ih
  have pn : ((vs.map Builtin.Re.reRawOf).mergeSort (PySem.W.dataLe false PyData.int)).Perm (es.toList.map keyOf) := (List.mergeSort_perm _ _).trans pk
  have so : ((vs.map Builtin.Re.reRawOf).mergeSort (PySem.W.dataLe false PyData.int)).Pairwise (· ≤ ·) := by
    rw [show PySem.W.dataLe false PyData.int = fun a b => decide (a ≤ b) from PySem.W.dataLe_int (fun i : Int => i)]
    refine (List.pairwise_mergeSort (le := fun a b : Int => decide (a ≤ b)) (fun a b c h1 h2 => ?_) (fun a b => ?_) _).imp fun h => of_decide_eq_true h
    · simp only [decide_eq_true_eq] at h1 h2 ⊢; omega
    · simp only [Bool.or_eq_true, decide_eq_true_eq]; omega
  refine wpAny_pure ⟨_, rfl, hQ _ s1.heap.objs.size _ c _ (fun b u e => ?_) g1 o1 hz hc (back eo) so (pn.nodup_iff.mpr nd) (fun k => by rw [pn.mem_iff, ← hm k]) (by rw [List.length_mergeSort, List.length_map, hvl])⟩
  have q := k1 b u e
  have hlt := Heap.lt_size q
  show (sortedHeap (s1.heap.push (seqObj "list" vs.toArray 0)) s1.heap.objs.size vs out.toArray).get? b = some u
  rw [sortedHeap_old (Nat.ne_of_lt hlt) (by rw [size_push']; exact Nat.lt_succ_of_lt hlt)]
  exact Heap.get?_push_of_some _ q
end
end Vs
end
section
set_option autoImplicit false
/-! Vs0: the plain part: results, encodings, the operations that mirrors are written in. -/
namespace Vs
open PySem

/-- what a piece of Python gives: a value, an error of the program's own (class, at), or nothing that we speak of -/
inductive Res (α : Type) where
  | ok (a : α)
  | exc (c : Str) (i : Int)
  | stuck
namespace Res
variable {α β γ : Type}
def bind (m : Res α) (f : α → Res β) : Res β := match m with
  | .ok a => f a
  | .exc c i => .exc c i
  | .stuck => .stuck
def map (f : α → β) (m : Res α) : Res β := match m with
  | .ok a => .ok (f a)
  | .exc c i => .exc c i
  | .stuck => .stuck
instance : Monad Res where
  pure := .ok
  bind := Res.bind
@[simp] theorem ok_bind (a : α) (f : α → Res β) : (Res.ok a >>= f) = f a := rfl
@[simp] theorem exc_bind (c : Str) (i : Int) (f : α → Res β) : ((Res.exc c i : Res α) >>= f) = .exc c i := rfl
@[simp] theorem stuck_bind (f : α → Res β) : ((Res.stuck : Res α) >>= f) = .stuck := rfl
@[simp] theorem pure_eq (a : α) : (pure a : Res α) = .ok a := rfl
@[simp] theorem map_ok (f : α → β) (a : α) : (Res.ok a).map f = .ok (f a) := rfl
@[simp] theorem map_exc (f : α → β) (c : Str) (i : Int) : (Res.exc c i : Res α).map f = .exc c i := rfl
@[simp] theorem map_stuck (f : α → β) : (Res.stuck : Res α).map f = .stuck := rfl
theorem bind_assoc' (m : Res α) (f : α → Res β) (g : β → Res γ) : ((m >>= f) >>= g) = (m >>= fun x => f x >>= g) := by
  cases m <;> rfl
theorem bind_ok (m : Res α) : (m >>= fun x => Res.ok x) = m := by cases m <;> rfl
theorem map_eq_bind (f : α → β) (m : Res α) : m.map f = (m >>= fun x => .ok (f x)) := by cases m <;> rfl
theorem map_bind (m : Res α) (f : α → Res β) (g : β → γ) : (m >>= f).map g = (m >>= fun x => (f x).map g) := by cases m <;> rfl
theorem bind_map (m : Res α) (f : α → β) (g : β → Res γ) : (m.map f >>= g) = (m >>= fun x => g (f x)) := by cases m <;> rfl
theorem ite_bind (c : Prop) [Decidable c] (a b : Res α) (f : α → Res β) : ((if c then a else b) >>= f) = if c then a >>= f else b >>= f := by
  split <;> rfl
theorem eq_ok_of_bind {m : Res α} {f : α → Res β} {b : β} (h : (m >>= f) = .ok b) : ∃ a, m = .ok a ∧ f a = .ok b := by
  cases m with
  | ok a => exact ⟨a, rfl, h⟩
  | exc c i => cases h
  | stuck => cases h
end Res

/-! ### data -/
class Enc (α : Type) where
  toD : α → PyData
open Enc (toD)
/-- a text of code points -/
abbrev PStr := { x : Str // x.cps.all (· < 0x110000) = true }
structure Tup (α : Type) where
  l : List α
  deriving DecidableEq
structure T3 (α β γ : Type) where
  (a : α) (b : β) (c : γ)
  deriving DecidableEq
structure T4 (α β γ δ : Type) where
  (a : α) (b : β) (c : γ) (d : δ)
  deriving DecidableEq
structure T5 (α β γ δ ε : Type) where
  (a : α) (b : β) (c : γ) (d : δ) (e : ε)
  deriving DecidableEq
structure Dict (κ α : Type) where
  l : List (κ × α)
  deriving DecidableEq
/-- the script as it comes: a list that nobody may change -/
structure Scr where
  l : List Int
/-- keys: tuples, or not -/
class DKey (κ : Type) where
  tk : Bool
section
variable {α β γ δ ε : Type}
instance : Enc Int := ⟨.int⟩
instance : Enc Bool := ⟨.bool⟩
instance : Enc PStr := ⟨fun x => .str x.1⟩
/-- a written text -/
def ps (s : String) (h : (Str.ofString s).cps.all (· < 0x110000) = true := by decide +kernel) : PStr := ⟨Str.ofString s, h⟩
instance : Enc Unit := ⟨fun _ => .none⟩
instance [Enc α] : Enc (List α) := ⟨fun xs => .list (xs.map toD)⟩
instance [Enc α] : Enc (Tup α) := ⟨fun xs => .tuple (xs.l.map toD)⟩
instance [Enc α] [Enc β] : Enc (α × β) := ⟨fun p => .tuple [toD p.1, toD p.2]⟩
instance [Enc α] [Enc β] [Enc γ] : Enc (T3 α β γ) := ⟨fun p => .tuple [toD p.a, toD p.b, toD p.c]⟩
instance [Enc α] [Enc β] [Enc γ] [Enc δ] : Enc (T4 α β γ δ) := ⟨fun p => .tuple [toD p.a, toD p.b, toD p.c, toD p.d]⟩
instance [Enc α] [Enc β] [Enc γ] [Enc δ] [Enc ε] : Enc (T5 α β γ δ ε) := ⟨fun p => .tuple [toD p.a, toD p.b, toD p.c, toD p.d, toD p.e]⟩
instance [Enc α] : Enc (Option α) := ⟨fun o => match o with | none => .none | some a => toD a⟩
instance : DKey Int := ⟨false⟩
instance : DKey PStr := ⟨false⟩
instance : DKey (Tup α) := ⟨true⟩
instance : DKey (α × β) := ⟨true⟩
instance : DKey (T3 α β γ) := ⟨true⟩
instance [Enc α] [Enc β] [DKey α] : Enc (Dict α β) := ⟨fun d => .dict ((.bool (DKey.tk α), .none) :: d.l.map fun p => (toD p.1, toD p.2))⟩
instance : Enc Scr := ⟨fun s => .dict [(.none, .list (s.l.map toD))]⟩
/-- a constant of the module that is a tuple -/
structure CTup (α : Type) where
  l : List α
  deriving DecidableEq
instance {α : Type} [Enc α] : Enc (CTup α) := ⟨fun s => .dict [(.none, .tuple (s.l.map toD))]⟩
/-- a text that repr gave -/
structure RTx where
  s : Str
  deriving DecidableEq
instance : Enc RTx := ⟨fun x => .str x.s⟩
/-- a caught error: it stands at a, its own dict at dx, its number i -/
structure ERef where
  (a dx : Nat) (i : Int)
instance : Enc ERef := ⟨fun e => .dict [(.int e.a, .int e.dx), (.none, .int e.i)]⟩
/-- a def as a value -/
structure FnRef where
  a : Nat
instance : Enc FnRef := ⟨fun f => .dict [(.str Str.empty, .int f.a)]⟩
/-- a value of a kind that is not told -/
structure Dyn where
  d : PyData
instance : Enc Dyn := ⟨fun x => x.d⟩
def dynR [Enc α] (x : α) : Dyn := ⟨toD x⟩
/-- one of two kinds -/
instance [Enc α] [Enc β] : Enc (α ⊕ β) := ⟨fun x => match x with | .inl a => toD a | .inr b => toD b⟩
end

/-! ### numbers -/
def lim : Nat := 16777216
def big : Int := 18446744073709551616
/-- one factor below 2 ^ 64 -/
def mulI (a b : Int) : Res Int := if (-big < a ∧ a < big) ∨ (-big < b ∧ b < big) then .ok (a * b) else .stuck
def fdivI (a b : Int) : Res Int := if b ≠ 0 ∧ b.natAbs < 1073741824 then .ok (a.fdiv b) else .stuck
def modI (a b : Int) : Res Int := if b ≠ 0 then .ok (a.fmod b) else .stuck
def powI (a b : Int) : Res Int := if 0 ≤ b ∧ b ≤ 1000000 ∧ (a.natAbs : Int) < big then .ok (a ^ b.toNat) else .stuck
def absI (a : Int) : Int := if a < 0 then -a else a
def min2 (a b : Int) : Int := if b < a then b else a
def max2 (a b : Int) : Int := if b > a then b else a
def boolI (b : Bool) : Int := if b then 1 else 0

/-! ### lists -/
section
variable {α β γ σ Ω : Type}
def mkL (xs : List α) : Res (List α) := if xs.length ≤ lim then .ok xs else .stuck
def pushL (xs : List α) (y : α) : Res (List α) := mkL (xs ++ [y])
def catL (xs ys : List α) : Res (List α) := mkL (xs ++ ys)
def repL (xs : List α) (k : Int) : Res (List α) := if -(2 ^ 63) ≤ k ∧ k < 2 ^ 63 ∧ xs.length * k.toNat ≤ lim then .ok (List.replicate k.toNat xs).flatten else .stuck
def idx (n : Nat) (i : Int) : Option Nat := if 0 ≤ i then (if i < n then some i.toNat else none) else if -(n : Int) ≤ i then some (i + n).toNat else none
def getL (xs : List α) (i : Int) : Res α := match (idx xs.length i).bind fun j => xs[j]? with
  | some v => .ok v
  | none => .stuck
def setL (xs : List α) (i : Int) (v : α) : Res (List α) := match idx xs.length i with
  | some j => .ok (xs.set j v)
  | none => .stuck
def lenL (xs : List α) : Int := xs.length
/-- a slice's bound -/
def bnd (n d : Nat) : Option Int → Nat
  | none => d
  | some i => if i < 0 then (max (i + n) 0).toNat else (min i n).toNat
def cutL (xs : List α) (lo hi : Option Int) : List α := (xs.drop (bnd xs.length 0 lo)).take (bnd xs.length xs.length hi - bnd xs.length 0 lo)
def rangeL (lo hi : Int) : List Int := (List.range (hi - lo).toNat).map fun (k : Nat) => lo + (k : Int)
def rangeR (lo hi : Int) : Res (List Int) := if -(2 ^ 62) ≤ lo ∧ lo < 2 ^ 62 ∧ -(2 ^ 62) ≤ hi ∧ hi < 2 ^ 62 ∧ (hi - lo).toNat ≤ lim then .ok (rangeL lo hi) else .stuck
def enumL (xs : List α) : List (Int × α) := xs.zipIdx.map fun p => ((p.2 : Int), p.1)
def sumI (xs : List Int) : Int := xs.sum
def maxL : List Int → Res Int
  | [] => .stuck
  | x :: xs => .ok (xs.foldl max x)
def minL : List Int → Res Int
  | [] => .stuck
  | x :: xs => .ok (xs.foldl min x)
/-- the first place of an item -/
def indexL [DecidableEq α] (xs : List α) (y : α) : Res Int := if y ∈ xs then .ok (xs.idxOf y : Nat) else .stuck

/-! ### loops -/
/-- no error leaves a comprehension's block -/
def noX (m : Res α) : Res α := match m with
  | .ok a => .ok a
  | _ => .stuck
@[simp] theorem noX_ok (a : α) : noX (.ok a) = .ok a := rfl
@[simp] theorem noX_stuck : noX (.stuck : Res α) = .stuck := rfl
theorem noX_no {m : Res α} {c : Str} {i : Int} : noX m ≠ .exc c i := by cases m <;> intro h <;> cases h
/-- [f x for x in xs if t x] -/
def lcR (t : α → Res Bool) (f : α → Res β) : List α → Res (List β)
  | [] => .ok []
  | x :: xs => do
    let b ← noX (t x)
    if b then do
      let y ← noX (f x)
      let ys ← lcR t f xs
      .ok (y :: ys)
    else lcR t f xs
def lc2C (t : α → Res Bool) (g : α → Res (List β)) : List α → Res (List β)
  | [] => .ok []
  | x :: xs => do
    let b ← noX (t x)
    if b then do
      let y ← noX (g x)
      let ys ← lc2C t g xs
      .ok (y ++ ys)
    else lc2C t g xs
/-- [f x y for x in xs if t x for y in ys x if u x y] -/
def lc2R (t : α → Res Bool) (ys : α → Res (List γ)) (u : α → γ → Res Bool) (f : α → γ → Res β) (xs : List α) : Res (List β) := do
  let r ← lc2C t (fun x => do
    let zs ← ys x
    lcR (u x) (f x) zs) xs
  mkL r
def foldR (f : σ → α → Res σ) : List α → σ → Res σ
  | [], s => .ok s
  | x :: xs, s => do
    let s' ← f s x
    foldR f xs s'
/-- how a block ends that may leave -/
inductive Ctl (Ω σ : Type) where
  | ex (o : Ω)
  | nx (s : σ)
def foldC (f : σ → α → Res (Ctl Ω σ)) : List α → σ → Res (Ctl Ω σ)
  | [], s => .ok (.nx s)
  | x :: xs, s => do
    match ← f s x with
    | .ex o => .ok (.ex o)
    | .nx s' => foldC f xs s'
def whileN (c : σ → Res Bool) (b : σ → Res σ) : Nat → σ → Res σ
  | 0, _ => .stuck
  | n + 1, s => do
    let k ← c s
    if k then do
      let s' ← b s
      whileN c b n s'
    else .ok s
def whileNC (c : σ → Res Bool) (b : σ → Res (Ctl Ω σ)) : Nat → σ → Res (Ctl Ω σ)
  | 0, _ => .stuck
  | n + 1, s => do
    let k ← c s
    if k then do
      match ← b s with
      | .ex o => .ok (.ex o)
      | .nx s' => whileNC c b n s'
    else .ok (.nx s)
open Classical in
noncomputable def whileR (c : σ → Res Bool) (b : σ → Res σ) (s : σ) : Res σ := if h : ∃ n, whileN c b n s ≠ .stuck then whileN c b (choose h) s else .stuck
open Classical in
noncomputable def whileC (c : σ → Res Bool) (b : σ → Res (Ctl Ω σ)) (s : σ) : Res (Ctl Ω σ) := if h : ∃ n, whileNC c b n s ≠ .stuck then whileNC c b (choose h) s else .stuck

theorem whileN_succ (c : σ → Res Bool) (b : σ → Res σ) : ∀ n s, whileN c b n s ≠ .stuck → whileN c b (n + 1) s = whileN c b n s
  | 0, _, h => absurd rfl h
  | n + 1, s, h => by
    show (c s >>= fun k => if k then b s >>= whileN c b (n + 1) else .ok s) = (c s >>= fun k => if k then b s >>= whileN c b n else .ok s)
    have h' : (c s >>= fun k => if k then b s >>= whileN c b n else .ok s) ≠ .stuck := h
    cases e : c s with
    | ok k =>
      rw [e] at h'
      cases k with
      | false => rfl
      | true =>
        simp only [Res.ok_bind, if_true] at h' ⊢
        cases e2 : b s with
        | ok s' =>
          rw [e2] at h'
          exact whileN_succ c b n s' h'
        | exc c i => rfl
        | stuck => rfl
    | exc c i => rfl
    | stuck => rfl
theorem whileN_mono {c : σ → Res Bool} {b : σ → Res σ} {n m : Nat} {s : σ} (h : whileN c b n s ≠ .stuck) (hm : n ≤ m) : whileN c b m s = whileN c b n s := by
  induction hm with
  | refl => rfl
  | @step m _ ih => rw [whileN_succ c b m s (by rw [ih]; exact h), ih]
theorem whileR_eq {c : σ → Res Bool} {b : σ → Res σ} {n : Nat} {s : σ} (h : whileN c b n s ≠ .stuck) : whileR c b s = whileN c b n s := by
  have hx : ∃ n, whileN c b n s ≠ .stuck := ⟨n, h⟩
  unfold whileR
  rw [dif_pos hx]
  have hc := Classical.choose_spec hx
  rcases Nat.le_total n (Classical.choose hx) with hl | hl
  · exact whileN_mono h hl
  · exact (whileN_mono hc hl).symm
theorem whileR_ne {c : σ → Res Bool} {b : σ → Res σ} {s : σ} (h : whileR c b s ≠ .stuck) : ∃ n, whileN c b n s ≠ .stuck ∧ whileR c b s = whileN c b n s := by
  unfold whileR at h
  split at h
  · rename_i hx
    exact ⟨_, h, whileR_eq h⟩
  · exact absurd rfl h
theorem whileR_unfold (c : σ → Res Bool) (b : σ → Res σ) (s : σ) : whileR c b s = (c s >>= fun k => if k then b s >>= whileR c b else .ok s) := by
  by_cases hx : ∃ n, whileN c b n s ≠ .stuck
  · obtain ⟨n, h⟩ := hx
    rw [whileR_eq h]
    cases n with
    | zero => exact absurd rfl h
    | succ n =>
      have h' : (c s >>= fun k => if k then b s >>= whileN c b n else .ok s) ≠ .stuck := h
      show (c s >>= fun k => if k then b s >>= whileN c b n else .ok s) = _
      cases e : c s with
      | ok k =>
        rw [e] at h'
        cases k with
        | false => rfl
        | true =>
          simp only [Res.ok_bind, if_true] at h' ⊢
          cases e2 : b s with
          | ok s' =>
            rw [e2] at h'
            exact (whileR_eq (n := n) h').symm
          | exc c i => rfl
          | stuck => rfl
      | exc c i => rfl
      | stuck => rfl
  · have e0 : whileR c b s = .stuck := by unfold whileR; rw [dif_neg hx]
    rw [e0]
    cases e : c s with
    | ok k =>
      cases k with
      | false =>
        refine absurd ⟨1, ?_⟩ hx
        show (c s >>= fun k => if k then b s >>= whileN c b 0 else .ok s) ≠ .stuck
        rw [e]
        simp
      | true =>
        simp only [Res.ok_bind, if_true]
        cases e2 : b s with
        | ok s' =>
          simp only [Res.ok_bind]
          by_cases hy : whileR c b s' = .stuck
          · exact hy.symm
          · obtain ⟨n, h1, h2⟩ := whileR_ne hy
            refine absurd ⟨n + 1, ?_⟩ hx
            show (c s >>= fun k => if k then b s >>= whileN c b n else .ok s) ≠ .stuck
            rw [e]
            simp only [Res.ok_bind, if_true, e2]
            exact h1
        | exc c' i =>
          refine absurd ⟨1, ?_⟩ hx
          show (c s >>= fun k => if k then b s >>= whileN c b 0 else .ok s) ≠ .stuck
          rw [e]
          simp [e2]
        | stuck => rfl
    | exc c' i =>
      refine absurd ⟨1, ?_⟩ hx
      show (c s >>= fun k => if k then b s >>= whileN c b 0 else .ok s) ≠ .stuck
      rw [e]
      simp
    | stuck => rfl
end

/-! ### order -/
class Ord1 (α : Type) where
  lt : α → α → Bool
  /-- which lists can be sorted -/
  sb : List α → Bool
section
variable {α β γ δ : Type}
instance : Ord1 Int := ⟨fun a b => decide (a < b), fun _ => true⟩
instance : Ord1 PStr := ⟨fun a b => decide (a.1.cps.toList < b.1.cps.toList), fun _ => true⟩
instance : Ord1 Bool := ⟨fun a b => !a && b, fun _ => true⟩
def ltRow [Ord1 α] [DecidableEq α] : List α → List α → Bool
  | [], [] => false
  | [], _ :: _ => true
  | _ :: _, [] => false
  | x :: xs, y :: ys => if x = y then ltRow xs ys else Ord1.lt x y
instance [Ord1 α] [DecidableEq α] : Ord1 (List α) := ⟨ltRow, fun _ => true⟩
instance [Ord1 α] [DecidableEq α] : Ord1 (Tup α) := ⟨fun a b => ltRow a.l b.l, fun xs => xs.all fun x => !x.l.isEmpty⟩
instance [Ord1 α] [DecidableEq α] [Ord1 β] : Ord1 (α × β) := ⟨fun a b => if a.1 = b.1 then Ord1.lt a.2 b.2 else Ord1.lt a.1 b.1, fun _ => true⟩
instance [Ord1 α] [DecidableEq α] [Ord1 β] [DecidableEq β] [Ord1 γ] : Ord1 (T3 α β γ) := ⟨fun a b => if a.a = b.a then (if a.b = b.b then Ord1.lt a.c b.c else Ord1.lt a.b b.b) else Ord1.lt a.a b.a, fun _ => true⟩
instance [Ord1 α] [DecidableEq α] [Ord1 β] [DecidableEq β] [Ord1 γ] [DecidableEq γ] [Ord1 δ] : Ord1 (T4 α β γ δ) := ⟨fun a b => if a.a = b.a then (if a.b = b.b then (if a.c = b.c then Ord1.lt a.d b.d else Ord1.lt a.c b.c) else Ord1.lt a.b b.b) else Ord1.lt a.a b.a, fun _ => true⟩
def sortP [Ord1 α] (xs : List α) : List α := xs.mergeSort fun a b => !Ord1.lt b a
def sortL [Ord1 α] (xs : List α) : Res (List α) := if Ord1.sb xs = true then .ok (sortP xs) else .stuck
/-- each member once -/
def dedup [DecidableEq α] : List α → List α
  | [] => []
  | x :: xs => if x ∈ xs then dedup xs else x :: dedup xs
theorem mem_dedup [DecidableEq α] {y : α} : ∀ {xs : List α}, y ∈ dedup xs ↔ y ∈ xs
  | [] => Iff.rfl
  | x :: xs => by
    unfold dedup
    by_cases h : x ∈ xs
    · rw [if_pos h, mem_dedup, List.mem_cons]
      exact ⟨.inr, fun e => e.elim (fun e => e ▸ h) id⟩
    · rw [if_neg h, List.mem_cons, List.mem_cons, mem_dedup]
theorem nodup_dedup [DecidableEq α] : ∀ xs : List α, (dedup xs).Nodup
  | [] => List.nodup_nil
  | x :: xs => by
    unfold dedup
    by_cases h : x ∈ xs
    · rw [if_pos h]; exact nodup_dedup xs
    · rw [if_neg h]; exact List.nodup_cons.mpr ⟨fun e => h (mem_dedup.mp e), nodup_dedup xs⟩
/-- set(xs), then sorted -/
def sortS [Ord1 α] [DecidableEq α] (xs : List α) : List α := sortP (dedup xs)
end
/-- what a set is made of: fewer than the scan's bound -/
def setI (xs : List Int) : Res (List Int) := if xs.length < 4095 then .ok xs else .stuck

/-! ### dicts -/
section
variable {κ α : Type} [DecidableEq κ]
def putP (l : List (κ × α)) (k : κ) (x : α) : List (κ × α) := if (l.any fun p => decide (p.1 = k)) = true then l.map (fun p => if p.1 = k then (p.1, x) else p) else l ++ [(k, x)]
def valP (l : List (κ × α)) (k : κ) : Option α := (l.find? fun p => decide (p.1 = k)).map (·.2)
def Dict.getR (d : Dict κ α) (k : κ) : Res α := match valP d.l k with
  | some x => .ok x
  | none => .stuck
def Dict.putR (d : Dict κ α) (k : κ) (x : α) : Res (Dict κ α) := if d.l.length < lim then .ok ⟨putP d.l k x⟩ else .stuck
def Dict.has (d : Dict κ α) (k : κ) : Bool := (valP d.l k).isSome
def Dict.keys (d : Dict κ α) : List κ := d.l.map (·.1)
end
end Vs
end
section
set_option Elab.async false
set_option linter.all false
set_option maxRecDepth 100000
set_option maxHeartbeats 3200000
/-! VsT: set of a list of tuples of ints: any number of items, of at most 62 kinds. -/
namespace Vs
open Enc (toD)
open PySem PySem.Spec PyProof.Rows L2
theorem nodup_len_le {α : Type} [DecidableEq α] : ∀ {l ys : List α}, l.Nodup → (∀ x ∈ l, x ∈ ys) → l.length ≤ ys.length
  | [], _, _, _ => Nat.zero_le _
  | a :: l, ys, n, h => by
    have n' := List.nodup_cons.mp n
    have ha := h a List.mem_cons_self
    have := nodup_len_le (l := l) (ys := ys.erase a) n'.2 fun x hx => (List.mem_erase_of_ne fun e => n'.1 (by rw [← e]; exact hx)).mpr (h x (List.mem_cons_of_mem _ hx))
    rw [List.length_erase_of_mem ha] at this
    have := List.length_pos_of_mem ha
    rw [List.length_cons]; omega
theorem dedup_sub {α : Type} [DecidableEq α] {xs ys : List α} (h : ∀ x ∈ xs, x ∈ ys) : (dedup xs).length ≤ (dedup ys).length :=
  nodup_len_le (nodup_dedup xs) fun x hx => mem_dedup.mpr (h x (mem_dedup.mp hx))
section
variable {P : Program} {w : World} {A : Around} {E : Value → Shared → Prop} {s : Shared}
theorem kinds_le {h : Heap} {S : Addr} {ks L : List (Addr × List Int)} {es : Array (Int × Value)} {ep : Nat} {t : SetTable} {i : Nat} (R : SetTR P w h S L es ep t) (g : Got ks i L) : L.length ≤ (dedup (ks.map (·.2))).length := by
  have := nodup_len_le (l := L.map (·.2)) (ys := dedup (ks.map (·.2))) R.nd fun x hx => by
    obtain ⟨p, hp, e⟩ := List.mem_map.mp hx
    exact mem_dedup.mpr (List.mem_map.mpr ⟨p, List.mem_of_mem_take (g.sub p hp), e⟩)
  rwa [List.length_map] at this
/-- one turn after the other -/
theorem laps_tups {it : Addr} {fs ws : List Addr} {G : Array GenState → Array GenState → Prop} {m : Nat} {V : Nat → Value → Prop} {St : Nat → Shared → Prop} {R : Result → Shared → Prop} (W : WalksS P w A.in1 it fs ws G m V St) {S : Addr} (nf : S ∉ fs) {ks : List (Addr × List Int)} (em : m = ks.length) (few : (dedup (ks.map (·.2))).length ≤ 62)
    (ev : ∀ i v, V i v → ∃ p, ks[i]? = some p ∧ v = .ref p.1) {g0 : Heap} (old : ∀ p ∈ ks, IsT P w g0 p.2 p.1) (noS : g0.get? S = none) (noW : ∀ b ∈ ws, g0.get? b = none) (un : A.in1.units < cLine) (r : Nat) :
    ∀ (i : Nat) (s : Shared), m - i = r → i ≤ m → St i s → (∀ b o, g0.get? b = some o → s.heap.get? b = some o) → (∃ L es ep t, SetTR P w s.heap S L es ep t ∧ Got ks i L) →
      (∀ s' L es ep t, Moved (S :: ws) G s s' → SetTR P w s'.heap S L es ep t → Got ks m L → (∀ b o, g0.get? b = some o → s'.heap.get? b = some o) → R (.ok (.ret .none)) s') → codeAny (model P w) A (.builtin "set.update.loop" ⟨[.ref S, .ref it], []⟩) R s := by
  have nw : S ∉ ws := fun q => nf (W.sub _ q)
  have up : ∀ b ∈ ws, b ∈ S :: ws := fun b q => List.mem_cons_of_mem _ q
  have stay : ∀ {a b : Shared}, Moved ws G a b → (∀ c o, g0.get? c = some o → a.heap.get? c = some o) → ∀ c o, g0.get? c = some o → b.heap.get? c = some o := fun mv k c o e => mv.heap c o (fun q => by rw [noW c q] at e; cases e) (k c o e)
  have mem : ∀ {i : Nat} {L : List (Addr × List Int)}, Got ks i L → ∀ p ∈ L, p ∈ ks := fun g p q => List.mem_of_mem_take (g.sub p q)
  induction r with
  | zero =>
    intro i s er hi st k ⟨L, es, ep, t, rS, g⟩ fin
    obtain rfl : i = m := by omega
    refine codeAny_builtin F.entry_set_update_loop ?_; rw [Around.under_plainId F.plain_set_update_loop _]; show wpAny _ A.in1 (pyNext (.ref it) >>= _) _ _ s
    refine wpAny_bind (W.done s _ _ st fun s2 mv => ?_); show wpAny _ A.in1 (ret Value.none) _ _ s2
    exact wpAny_pure (fin s2 L es ep t (mv.mono up) (rS.keep (fun o e => mv.heap S o nw e) fun p q => isT_keep (old p (mem g p q)) (stay mv k)) g (stay mv k))
  | succ r ih =>
    intro i s er hi st k ⟨L, es, ep, t, rS, g⟩ fin
    refine codeAny_builtin F.entry_set_update_loop ?_; rw [Around.under_plainId F.plain_set_update_loop _]; show wpAny _ A.in1 (pyNext (.ref it) >>= _) _ _ s
    have lt : i < m := by omega
    refine wpAny_bind (W.item i s _ _ lt st fun v s2 hv st2 mv => ?_)
    obtain ⟨p, ep1, rfl⟩ := ev i v hv
    have k2 := stay mv k
    have rS2 : SetTR P w s2.heap S L es ep t := rS.keep (fun o e => mv.heap S o nw e) fun q hq => isT_keep (old q (mem g q hq)) k2
    have tp : IsT P w s2.heap p.2 p.1 := isT_keep (old p (List.mem_of_getElem? ep1)) k2
    have few2 : L.length + 1 < 64 := by have := kinds_le rS2 g; omega
    show wpAny _ A.in1 (holding [Value.ref p.1] (setAdd S (.ref p.1)) >>= _) _ _ s2; refine wpAny_bind (wpAny_holding ?_); unfold setAdd; refine wpAny_holding (wpAny_bind (wpAny_pyHash_tuple un tp ?_))
    refine add_at (s := { s2 with toks := s2.toks + (p.2.length + 1) }) rS2 tp un few2 fun _ h3 L3 es3 ep3 t3 sb rS3 c1 c2 => ?_
    have g3 : Got ks (i + 1) L3 := (Classical.em (p.2 ∈ L.map (·.2))).elim (fun c => by rw [c1 c]; exact g.same ep1 c) fun c => g.more ep1 (c2 c)
    have k3 : ∀ b o, g0.get? b = some o → h3.get? b = some o := fun b o e => (sb.2 b fun q => by rw [q, noS] at e; cases e).trans (k2 b o e)
    refine wpAny_pure ⟨plainId_quiet F.plain_set_update_loop _, ih (i + 1) _ (by omega) lt (W.frame _ s2 _ _ st2 (Nat.le_add_right _ _) fun b q o e => (sb.2 b fun z : b = S => nf (by rw [← z]; exact q)).trans e) k3 ⟨L3, es3, ep3, t3, rS3, g3⟩ fun s4 L4 es4 ep4 t4 mv4 rS4 g4 k4 => ?_⟩
    exact fin s4 L4 es4 ep4 t4 (Moved.trans W.gtrans ((mv.mono up).then_heap (Nat.le_add_right _ _) fun b o q e => (sb.2 b fun z : b = S => q (by rw [z]; exact List.mem_cons_self)).trans e) mv4) rS4 g4 k4
theorem set_of_tups {l : Addr} {items : Array Value} (ks : List (Addr × List Int)) {Q : Value → Shared → Prop} (hh : A.handled = none) (hl : s.heap.IsList l items) (hit : items.toList = ks.map fun p => Value.ref p.1) (ht : ∀ p ∈ ks, IsT P w s.heap p.2 p.1) (few : (dedup (ks.map (·.2))).length ≤ 62) (un : A.units + 3 < cLine)
    (h : ∀ (h' : Heap) (tk : Nat) L es ep t, SetTR P w h' s.heap.objs.size L es ep t → Got ks ks.length L → (∀ b o, s.heap.get? b = some o → h'.get? b = some o) → Q (.ref s.heap.objs.size) { s with heap := h', toks := tk }) :
    wpAny (model P w) A (call (.type "set") [.ref l]) Q E s := by
  have ez : items.size = ks.length := by
    have q := congrArg List.length hit
    rwa [Array.length_toList, List.length_map] at q
  obtain ⟨c, tl, m0⟩ := F.called_set.mro
  have m1 := F.called_set.made
  have m2 := F.called_set.sub
  refine wpAny_call (codeAny_of_tree ?_); show wpAny _ _ (callAny (.type "set") _) _ _ _; refine wpAny_pure ⟨Code.quiet_builtin _ (by decide +kernel), codeAny_builtin F.entry_type_call ?_⟩; rw [Around.under_plain (weight_type_call_type "set" [.ref l] []) rfl]
  have m3 := F.called_set.notType
  have m4 := F.called_set.canCreate
  have m5 := F.typeCall_set_1 (.ref l)
  repeat (any_goals first | assumption | wp_step)

  refine codeAny_mono (code_set_led1 (.ref l) (E := E) (Q₁ := fun ov s1 => ov = .ref s.heap.objs.size ∧ s1 = { s with heap := hp1 w s }) ⟨rfl, rfl⟩) fun r s1 hr1 => ?_
  cases r with
  | error e => exact hr1
  | ok fw =>
    cases fw with
    | ret ov =>
      obtain ⟨rfl, rfl⟩ := hr1
      have oS : (hp1 w s).get? s.heap.objs.size = some (setO0 w) := Heap.get?_push_size _ rfl
      have tS : Shared.TypeIs { s with heap := hp1 w s } (.ref s.heap.objs.size) "set" := ⟨_, oS, rfl⟩
      have m6 := F.called_set.init.lookup
      have m7 := F.called_set.init.bind (.ref s.heap.objs.size)
      repeat (any_goals first | assumption | wp_step)

      refine codeAny_mono (codeAny_call_builtin (R := wants (fun r s9 => r = .none ∧ ∃ h' tk L es ep t, s9 = { s with heap := h', toks := tk } ∧ SetTR P w h' s.heap.objs.size L es ep t ∧ Got ks ks.length L ∧
          (∀ b o, s.heap.get? b = some o → h'.get? b = some o)) E) F.called_set.init.plain F.entry_set_init (check_set_init_1 tS ?_)) fun r9 s9 hr9 => ?_
      · obtain ⟨ob, eob, ecl, cap, edt⟩ := hl
        obtain ⟨k1, k2, k3, k4⟩ := ob
        simp only at ecl edt
        subst ecl; subst edt
        have eob1 : (hp1 w s).get? l = some { cls := .type "list", dict := k2, data := .seq items cap, slots := k4 } := Heap.get?_push_of_some _ eob
        have n1 := PySem.F.sub_list_set
        have n2 := PySem.F.sub_list_frozenset
        have n3 : (Value.type "list" == Value.type "dict") = false := by decide
        have isl : (hp1 w s).IsList l items := ⟨_, eob1, rfl, cap, rfl⟩
        unfold Builtin.«set.__init__» noKeywords Builtin.Frozenset.updateFrom; generalize ePI : pyIter = PI
        wp_walk
        subst ePI

        refine wpAny_pyIter_list isl ?_
        refine wpAny_bind (wpAny_runValue ?_); clear m4
        have lt0 : l < s.heap.objs.size := Heap.lt_size eob
        have hh9 : A.in1.in1.in1.handled = none := by simp [hh]
        have neI : l ≠ (hp1 w s).objs.size := by
          rw [Heap.size_push]; exact Nat.ne_of_lt (Nat.lt_succ_of_lt lt0)
        have nmS : s.heap.objs.size ∉ [(hp1 w s).objs.size, l] := by
          rw [Heap.size_push]; simp only [List.mem_cons, List.not_mem_nil, or_false, not_or]
          exact ⟨Nat.ne_of_lt (Nat.lt_succ_self _), Nat.ne_of_gt lt0⟩
        have val : ∀ (i : Nat) (v : Value), items[i]? = some v → ∃ p, ks[i]? = some p ∧ v = .ref p.1 := fun i v hv => by
          rw [← Array.getElem?_toList, hit, List.getElem?_map] at hv
          cases q : ks[i]? with
          | none => rw [q] at hv; cases hv
          | some p =>
            rw [q] at hv
            cases hv
            exact ⟨p, rfl, rfl⟩
        have out : ∀ b, s.heap.objs.size ≤ b → s.heap.get? b = none := fun b hb => by
          cases q : s.heap.get? b with
          | none => rfl
          | some o => exact (Nat.not_lt_of_le hb (Heap.lt_size q)).elim
        refine laps_tups ((Walks.list hh9 _ l neI items).toS) nmS ez few val (g0 := s.heap) ht (out _ (Nat.le_refl _)) (fun b hb => out b (by rw [List.mem_singleton.mp hb, Heap.size_push]; exact Nat.le_succ _)) un (items.size - 0) 0 _ (by omega) (Nat.zero_le _)
          ⟨⟨_, Heap.get?_push_size _ rfl, rfl, rfl⟩, (isl.push _)⟩ (fun b o e => Heap.get?_push_of_some _ (Heap.get?_push_of_some _ e)) ?hS0 ?hR
        case hS0 =>
          have gS : ((hp1 w s).push { cls := .type "list_iterator", data := .fields #[.ref l, .int 0 0] }).get? s.heap.objs.size
              = some (setO0 w) := Heap.get?_push_of_some _ oS
          exact ⟨[], #[], 0, _, setTR_fresh gS, Got.zero ks⟩
        case hR =>
          intro s' L es ep t mv rS g kp
          obtain ⟨h', g9, d9, tk9, os9⟩ := s'
          have e1 : g9 = s.gens := mv.gens
          have e2 : d9 = s.drawn := mv.drawn
          have e3 : os9 = s.os := mv.os
          subst e1; subst e2; subst e3
          show wpAny _ _ _ _ _ _
          refine wpAny_pure ?_; show wpAny _ _ (ret Value.none) _ _ _
          rw [ez] at g
          exact wpAny_pure ⟨rfl, h', tk9, L, es, ep, t, rfl, rS, g, kp⟩

      · cases r9 with
        | error e => exact hr9
        | ok fw2 =>
          cases fw2 with
          | ret r =>
            obtain ⟨rfl, h', tk, L, es, ep, t, rfl, rS, g, kp⟩ := hr9
            repeat (any_goals first | assumption | wp_step)
            exact h _ _ _ _ _ _ rS g kp
          | _ => exact hr9.elim
    | _ => exact hr1.elim
end
end Vs
end
section
set_option Elab.async false
set_option linter.all false
set_option maxRecDepth 100000
set_option maxHeartbeats 1000000
/-! Vs1: the judgements: an expression, a test, arguments, a block do what a mirror says. -/
namespace Vs
open Enc (toD)
open PySem PySem.Spec PyProof.Rows L2
abbrev St := L2.St

/-! ### frozen data -/
def keyD : Key → PyData
  | .inl k => .int k
  | .inr x => .str x
/-- a tuple: made by the run, or a constant -/
def TpA (K : PySem.W.Frag) (F : Hp) (a : Addr) (xs : List V) : Prop := F a = some (.tup xs)
theorem TpA.sq {K : PySem.W.Frag} {F : Hp} {a : Addr} {xs : List V} (h : TpA K F a xs) : SqT K F a xs := .inl (.inl h)
theorem TpA.sub {K : PySem.W.Frag} {F F' : Hp} {a : Addr} {xs : List V} (s : ∀ a o, F a = some o → F' a = some o) (h : TpA K F a xs) : TpA K F' a xs := s _ _ h
/-- a constant of the module: a tuple that the run has not made -/
def TpC (K : PySem.W.Frag) (a : Addr) (xs : List V) : Prop := ∀ H : Hp, SqT K H a xs
mutual
inductive Rp (K : PySem.W.Frag) (F : Hp) : V → PyData → Prop
  | non : Rp K F .non .none
  | bl (b : Bool) : Rp K F (.bl b) (.bool b)
  | int (i : Int) : Rp K F (.int i) (.int i)
  | str (x : Str) : Rp K F (.str x) (.str x)
  | lst {a : Addr} {xs : List V} {ds : List PyData} : F a = some (.lst xs) → RpAll K F xs ds → Rp K F (.ref a) (.list ds)
  | tup {a : Addr} {xs : List V} {ds : List PyData} : TpA K F a xs → RpAll K F xs ds → Rp K F (.ref a) (.tuple ds)
  | dk {a : Addr} {o : Obj} {kvs : List (Key × V)} {ds : List (PyData × PyData)} : F a = some (.frz o (.dK kvs)) → RpK K F kvs ds → Rp K F (.ref a) (.dict ((.bool false, .none) :: ds))
  | dt {a : Addr} {o : Obj} {kvs : List (List Key × V)} {ds : List (PyData × PyData)} : F a = some (.frz o (.dT kvs)) → RpT K F kvs ds → Rp K F (.ref a) (.dict ((.bool true, .none) :: ds))
  | ex {a dx : Addr} {i : Int} : F dx = some (.xd [(("at" : Str), .int i)]) → Rp K F (.ref a) (.dict [(.int (a : Nat), .int (dx : Nat)), (.none, .int i)])
  | fn {a : Addr} : Rp K F (.ref a) (.dict [(.str Str.empty, .int (a : Nat))])
  | scr {a : Addr} {xs : List V} {ds : List PyData} : SqL K F a xs → RpAll K F xs ds → Rp K F (.ref a) (.dict [(.none, .list ds)])
  | ctup {a : Addr} {xs : List V} {ds : List PyData} : TpC K a xs → RpAll K F xs ds → Rp K F (.ref a) (.dict [(.none, .tuple ds)])
inductive RpAll (K : PySem.W.Frag) (F : Hp) : List V → List PyData → Prop
  | nil : RpAll K F [] []
  | cons {v : V} {vs : List V} {d : PyData} {ds : List PyData} : Rp K F v d → RpAll K F vs ds → RpAll K F (v :: vs) (d :: ds)
inductive RpK (K : PySem.W.Frag) (F : Hp) : List (Key × V) → List (PyData × PyData) → Prop
  | nil : RpK K F [] []
  | cons {k : Key} {v : V} {r : List (Key × V)} {d : PyData} {ds : List (PyData × PyData)} : Rp K F v d → RpK K F r ds → RpK K F ((k, v) :: r) ((keyD k, d) :: ds)
inductive RpT (K : PySem.W.Frag) (F : Hp) : List (List Key × V) → List (PyData × PyData) → Prop
  | nil : RpT K F [] []
  | cons {k : List Key} {v : V} {r : List (List Key × V)} {d : PyData} {ds : List (PyData × PyData)} : Rp K F v d → RpT K F r ds → RpT K F ((k, v) :: r) ((.tuple (k.map keyD), d) :: ds)
end
abbrev Sub (F F' : Hp) : Prop := ∀ a o, F a = some o → F' a = some o
theorem sub_rd {F F' : Hp} (h : Sub F F') {a : Addr} {u : HO} (r : Rd F a u) : Rd F' a u := by
  rcases r with r | ⟨o, r⟩
  · exact .inl (h _ _ r)
  · exact .inr ⟨o, h _ _ r⟩
theorem sub_seqL {K : PySem.W.Frag} {F F' : Hp} (h : Sub F F') {a : Addr} {xs : List V} (r : SqL K F a xs) : SqL K F' a xs := by
  rcases r with r | r
  · exact .inl (sub_rd h r)
  · exact .inr r
theorem sub_seqT {K : PySem.W.Frag} {F F' : Hp} (h : Sub F F') {a : Addr} {xs : List V} (r : SqT K F a xs) : SqT K F' a xs := by
  rcases r with r | r
  · exact .inl (sub_rd h r)
  · exact .inr r
section
variable {K : PySem.W.Frag} {F F' : Hp}
mutual
theorem Rp.sub (h : Sub F F') : ∀ {v : V} {d : PyData}, Rp K F v d → Rp K F' v d
  | _, _, .non => .non
  | _, _, .bl b => .bl b
  | _, _, .int b => .int b
  | _, _, .str b => .str b
  | _, _, .lst a b => .lst (h _ _ a) (RpAll.sub h b)
  | _, _, .tup a b => .tup (a.sub h) (RpAll.sub h b)
  | _, _, .dk a b => .dk (h _ _ a) (RpK.sub h b)
  | _, _, .dt a b => .dt (h _ _ a) (RpT.sub h b)
  | _, _, .ex a => .ex (h _ _ a)
  | _, _, .fn => .fn
  | _, _, .scr a b => .scr (sub_seqL h a) (RpAll.sub h b)
  | _, _, .ctup a b => .ctup a (RpAll.sub h b)
theorem RpAll.sub (h : Sub F F') : ∀ {v : List V} {d : List PyData}, RpAll K F v d → RpAll K F' v d
  | _, _, .nil => .nil
  | _, _, .cons a b => .cons (Rp.sub h a) (RpAll.sub h b)
theorem RpK.sub (h : Sub F F') : ∀ {v : List (Key × V)} {d : List (PyData × PyData)}, RpK K F v d → RpK K F' v d
  | _, _, .nil => .nil
  | _, _, .cons a b => .cons (Rp.sub h a) (RpK.sub h b)
theorem RpT.sub (h : Sub F F') : ∀ {v : List (List Key × V)} {d : List (PyData × PyData)}, RpT K F v d → RpT K F' v d
  | _, _, .nil => .nil
  | _, _, .cons a b => .cons (Rp.sub h a) (RpT.sub h b)
end
theorem RpAll.length : ∀ {vs : List V} {ds : List PyData}, RpAll K F vs ds → vs.length = ds.length
  | _, _, .nil => rfl
  | _, _, .cons _ t => congrArg Nat.succ t.length
theorem RpAll.append : ∀ {vs ws : List V} {ds es : List PyData}, RpAll K F vs ds → RpAll K F ws es → RpAll K F (vs ++ ws) (ds ++ es)
  | _, _, _, _, .nil, s => s
  | _, _, _, _, .cons a t, s => .cons a (t.append s)
theorem RpAll.get : ∀ {vs : List V} {ds : List PyData} {i : Nat} {d : PyData}, RpAll K F vs ds → ds[i]? = some d → ∃ v, vs[i]? = some v ∧ Rp K F v d
  | _, _, _, _, .nil, e => by simp at e
  | _, _, 0, _, .cons r _, e => by simp at e; subst e; exact ⟨_, rfl, r⟩
  | _, _, i + 1, d, .cons _ t, e => by
    obtain ⟨v, h1, h2⟩ := RpAll.get (i := i) t (by simpa using e)
    exact ⟨v, by simpa using h1, h2⟩
theorem RpAll.get' : ∀ {vs : List V} {ds : List PyData} {i : Nat} {v : V}, RpAll K F vs ds → vs[i]? = some v → ∃ d, ds[i]? = some d ∧ Rp K F v d
  | _, _, _, _, .nil, e => by simp at e
  | _, _, 0, _, .cons r _, e => by simp at e; subst e; exact ⟨_, rfl, r⟩
  | _, _, i + 1, d, .cons _ t, e => by
    obtain ⟨v, h1, h2⟩ := RpAll.get' (i := i) t (by simpa using e)
    exact ⟨v, by simpa using h1, h2⟩
theorem RpAll.set {v : V} {d : PyData} (r : Rp K F v d) : ∀ {vs : List V} {ds : List PyData} (i : Nat), RpAll K F vs ds → RpAll K F (vs.set i v) (ds.set i d)
  | _, _, _, .nil => .nil
  | _, _, 0, .cons _ t => .cons r t
  | _, _, i + 1, .cons q t => .cons q (RpAll.set r i t)
theorem RpAll.take : ∀ {vs : List V} {ds : List PyData} (n : Nat), RpAll K F vs ds → RpAll K F (vs.take n) (ds.take n)
  | _, _, 0, _ => .nil
  | _, _, _ + 1, .nil => .nil
  | _, _, n + 1, .cons r t => .cons r (RpAll.take n t)
theorem RpAll.drop : ∀ {vs : List V} {ds : List PyData} (n : Nat), RpAll K F vs ds → RpAll K F (vs.drop n) (ds.drop n)
  | _, _, 0, r => r
  | _, _, _ + 1, .nil => .nil
  | _, _, n + 1, .cons _ t => RpAll.drop n t
theorem RpAll.flat {xs : List V} {ds : List PyData} (r : RpAll K F xs ds) : ∀ n : Nat, RpAll K F (List.replicate n xs).flatten (List.replicate n ds).flatten
  | 0 => .nil
  | n + 1 => by
    rw [List.replicate_succ, List.replicate_succ, List.flatten_cons, List.flatten_cons]
    exact r.append (r.flat n)
/-- forms -/
theorem Rp.int_of {v : V} {i : Int} (r : Rp K F v (.int i)) : v = .int i := by cases r; rfl
theorem Rp.bl_of {v : V} {i : Bool} (r : Rp K F v (.bool i)) : v = .bl i := by cases r; rfl
theorem Rp.str_of {v : V} {i : Str} (r : Rp K F v (.str i)) : v = .str i := by cases r; rfl
theorem Rp.non_of {v : V} (r : Rp K F v .none) : v = .non := by cases r; rfl
theorem Rp.lst_of {v : V} {ds : List PyData} (r : Rp K F v (.list ds)) : ∃ a xs, v = .ref a ∧ F a = some (.lst xs) ∧ RpAll K F xs ds := by cases r; exact ⟨_, _, rfl, by assumption, by assumption⟩
theorem Rp.tup_of {v : V} {ds : List PyData} (r : Rp K F v (.tuple ds)) : ∃ a xs, v = .ref a ∧ SqT K F a xs ∧ RpAll K F xs ds := by cases r; exact ⟨_, _, rfl, TpA.sq (by assumption), by assumption⟩
theorem Rp.tup_at {v : V} {ds : List PyData} (r : Rp K F v (.tuple ds)) : ∃ a xs, v = .ref a ∧ TpA K F a xs ∧ RpAll K F xs ds := by cases r; exact ⟨_, _, rfl, by assumption, by assumption⟩
theorem Rp.non_iff {v : V} {d : PyData} (r : Rp K F v d) : v = .non ↔ d = .none := by
  cases r <;> simp
mutual
theorem Rp.dp {H : Hp} (h : Sub F H) : ∀ {v : V} {d : PyData}, Rp K F v d → d.canLay0 = true → Dp K H v d
  | _, _, .non, _ => .non
  | _, _, .bl b, _ => .bl b
  | _, _, .int b, _ => .int b
  | _, _, .str b, _ => .str b
  | _, _, .lst a b, c => .lst (.inl (.inl (h _ _ a))) (RpAll.dp h b (by simpa [PyData.canLay0] using c))
  | _, _, .tup a b, c => .tup (sub_seqT h a.sq) (RpAll.dp h b (by simpa [PyData.canLay0] using c))
  | _, _, .dk a b, c => by simp [PyData.canLay0] at c
  | _, _, .dt a b, c => by simp [PyData.canLay0] at c
  | _, _, .ex a, c => by simp [PyData.canLay0] at c
  | _, _, .fn, c => by simp [PyData.canLay0] at c
  | _, _, .scr a b, c => by simp [PyData.canLay0] at c
  | _, _, .ctup a b, c => by simp [PyData.canLay0] at c
theorem RpAll.dp {H : Hp} (h : Sub F H) : ∀ {v : List V} {d : List PyData}, RpAll K F v d → PyData.canLayAll0 d = true → DpAll K H v d
  | _, _, .nil, _ => .nil
  | _, _, .cons a b, c => by
    rw [PyData.canLayAll0, Bool.and_eq_true] at c
    exact .cons (Rp.dp h a c.1) (RpAll.dp h b c.2)
end
end

/-! ### the abstract heap grows -/
abbrev NTup (o : Option HO) : Prop := o ≠ none ∧ ∀ xs, o ≠ some (.tup xs)
theorem NTup.lst {xs : List V} : NTup (some (.lst xs)) := ⟨by simp, fun _ e => by cases e⟩
theorem NTup.dK {xs : List (Key × V)} : NTup (some (.dK xs)) := ⟨by simp, fun _ e => by cases e⟩
structure Grow (F H F' H' : Hp) : Prop where
  f : Sub F F'
  h : Sub H H'
  fh : Sub F' H'
  fn : ∀ a, NTup (H a) → F' a = F a
section
variable {F H F1 H1 F2 H2 : Hp}
theorem Grow.refl (s : Sub F H) : Grow F H F H := ⟨fun _ _ e => e, fun _ _ e => e, s, fun _ _ => rfl⟩
theorem Grow.trans (a : Grow F H F1 H1) (b : Grow F1 H1 F2 H2) : Grow F H F2 H2 :=
  ⟨fun x o e => b.f x o (a.f x o e), fun x o e => b.h x o (a.h x o e), b.fh, fun x hx => by
    have h1 : NTup (H1 x) := by
      cases e : H x with
      | none => exact absurd e hx.1
      | some o => rw [a.h x o e, ← e]; exact hx
    rw [b.fn x h1, a.fn x hx]⟩
theorem sub_free {H H' : Hp} (s : Sub H H') {a : Addr} (e : H' a = none) : H a = none := by
  cases q : H a with
  | none => rfl
  | some o => rw [s a o q] at e; cases e
theorem sub_upd {H : Hp} {p : Addr} {o : HO} (n : H p = none) : Sub H (upd H p o) := fun b x e => by
  rw [upd_ne (ne_of_none e n)]
  exact e
theorem sub_upd2 {F H : Hp} {p : Addr} {o : HO} (s : Sub F H) : Sub (upd F p o) (upd H p o) := fun b x e => by
  by_cases h : b = p
  · subst h; rw [upd_same] at e ⊢; exact e
  · rw [upd_ne h] at e ⊢; exact s _ _ e
/-- a new frozen object -/
theorem Grow.new {p : Addr} {o : HO} (s : Sub F H) (n : H p = none) : Grow F H (upd F p o) (upd H p o) :=
  ⟨sub_upd (sub_free s n), sub_upd n, sub_upd2 s, fun a ha => upd_ne fun e => ha.1 (by rw [e, n])⟩
/-- a new object that is not frozen -/
theorem Grow.own {p : Addr} {o : HO} (s : Sub F H) (n : H p = none) : Grow F H F (upd H p o) :=
  ⟨fun _ _ e => e, sub_upd n, fun a x e => sub_upd n a x (s a x e), fun _ _ => rfl⟩
end

/-! ### the slots -/
inductive SV where
  /-- frozen data -/
  | sh (d : PyData)
  /-- a list or a dict that only this slot holds; what is in it is frozen -/
  | ow (d : PyData)
abbrev Rs := List (Nat × SV)
def Cell (K : PySem.W.Frag) (F H : Hp) (a : Addr) (d : PyData) : Prop := F a = none ∧
  ((∃ xs ds, H a = some (.lst xs) ∧ RpAll K F xs ds ∧ d = .list ds) ∨ (∃ kvs ds, H a = some (.dK kvs) ∧ RpK K F kvs ds ∧ d = .dict ((.bool false, .none) :: ds)) ∨ (∃ kvs ds, H a = some (.dT kvs) ∧ RpT K F kvs ds ∧ d = .dict ((.bool true, .none) :: ds)))
theorem Cell.grow {K : PySem.W.Frag} {F H F' H' : Hp} {a : Addr} {d : PyData} (g : Grow F H F' H') (c : Cell K F H a d) : Cell K F' H' a d := by
  obtain ⟨n, c⟩ := c
  have hn : NTup (H a) := by
    rcases c with ⟨_, _, e, _⟩ | ⟨_, _, e, _⟩ | ⟨_, _, e, _⟩ <;> exact ⟨by rw [e]; simp, fun _ => by rw [e]; simp⟩
  refine ⟨by rw [g.fn a hn]; exact n, ?_⟩
  rcases c with ⟨xs, ds, e, r, rfl⟩ | ⟨xs, ds, e, r, rfl⟩ | ⟨xs, ds, e, r, rfl⟩
  · exact .inl ⟨xs, ds, g.h _ _ e, r.sub g.f, rfl⟩
  · exact .inr (.inl ⟨xs, ds, g.h _ _ e, r.sub g.f, rfl⟩)
  · exact .inr (.inr ⟨xs, ds, g.h _ _ e, r.sub g.f, rfl⟩)
theorem Cell.there {K : PySem.W.Frag} {F H : Hp} {a : Addr} {d : PyData} (c : Cell K F H a d) : H a ≠ none := by
  obtain ⟨_, ⟨_, _, e, _⟩ | ⟨_, _, e, _⟩ | ⟨_, _, e, _⟩⟩ := c <;> rw [e] <;> simp

/-- n: how many slots; F0, H0: at the def's entry -/
structure Rho (K : PySem.W.Frag) (n : Nat) (F0 H0 F H : Hp) (σ : St) (ρ : Rs) : Prop where
  len : σ.length = n
  base : Grow F0 H0 F H
  sh : ∀ i d, (i, SV.sh d) ∈ ρ → ∃ v, σ[i]? = some (some v) ∧ Rp K F v d
  ow : ∀ i d, (i, SV.ow d) ∈ ρ → ∃ a, σ[i]? = some (some (.ref a)) ∧ Cell K F H a d ∧ H0 a = none
  inj : ∀ i j d e a, (i, SV.ow d) ∈ ρ → (j, SV.ow e) ∈ ρ → σ[i]? = some (some (.ref a)) → σ[j]? = some (some (.ref a)) → i = j
section
variable {K : PySem.W.Frag} {n : Nat} {F0 H0 F H F' H' : Hp} {σ : St} {ρ ρ' : Rs}
theorem Rho.grow (R : Rho K n F0 H0 F H σ ρ) (g : Grow F H F' H') : Rho K n F0 H0 F' H' σ ρ :=
  ⟨R.len, R.base.trans g, fun i d m => by
    obtain ⟨v, e, r⟩ := R.sh i d m
    exact ⟨v, e, r.sub g.f⟩, fun i d m => by
    obtain ⟨a, e, c, z⟩ := R.ow i d m
    exact ⟨a, e, c.grow g, z⟩, R.inj⟩
theorem Rho.weak (R : Rho K n F0 H0 F H σ ρ) (w : ∀ p ∈ ρ', p ∈ ρ) : Rho K n F0 H0 F H σ ρ' :=
  ⟨R.len, R.base, fun i d m => R.sh i d (w _ m), fun i d m => R.ow i d (w _ m), fun i j d e a m1 m2 => R.inj i j d e a (w _ m1) (w _ m2)⟩
theorem Rho.fh (R : Rho K n F0 H0 F H σ ρ) : Sub F H := R.base.fh
theorem set_self {σ : St} {i n : Nat} {x : Option V} (h : σ.length = n) (hi : i < n) : (σ.set i x)[i]? = some x := List.getElem?_set_self (by omega)
/-- a slot is set to frozen data -/
theorem Rho.set {i : Nat} {v : V} {d : PyData} (R : Rho K n F0 H0 F H σ ρ) (hi : i < n) (r : Rp K F v d) (w : ∀ p ∈ ρ', p = (i, SV.sh d) ∨ (p ∈ ρ ∧ p.1 ≠ i)) : Rho K n F0 H0 F H (σ.set i (some v)) ρ' := by
  have same : ∀ {j : Nat} {x : Option V}, j ≠ i → σ[j]? = some x → (σ.set i (some v))[j]? = some x := fun hj e => by
    rw [List.getElem?_set_ne (Ne.symm hj)]; exact e
  have back : ∀ {j : Nat} {x : Option V}, j ≠ i → (σ.set i (some v))[j]? = some x → σ[j]? = some x := fun hj e => by
    rw [List.getElem?_set_ne (Ne.symm hj)] at e; exact e
  have ow : ∀ j e, (j, SV.ow e) ∈ ρ' → (j, SV.ow e) ∈ ρ ∧ j ≠ i := fun j e m => by
    rcases w _ m with q | ⟨m', ne⟩
    · cases q
    · exact ⟨m', ne⟩
  refine ⟨by rw [List.length_set]; exact R.len, R.base, fun j e m => ?_, fun j e m => ?_, fun j k d e a m1 m2 e1 e2 => ?_⟩
  · rcases w _ m with q | ⟨m', ne⟩
    · cases q
      exact ⟨v, set_self R.len hi, r⟩
    · obtain ⟨u, e1, r1⟩ := R.sh j e m'
      exact ⟨u, same ne e1, r1⟩
  · obtain ⟨m', ne⟩ := ow j e m
    obtain ⟨a, e1, c⟩ := R.ow j e m'
    exact ⟨a, same ne e1, c⟩
  · obtain ⟨m1', n1⟩ := ow j d m1
    obtain ⟨m2', n2⟩ := ow k e m2
    exact R.inj j k d e a m1' m2' (back n1 e1) (back n2 e2)
/-- .. to an owned object that is new since the entry and in no other slot -/
theorem Rho.setO {i : Nat} {a : Addr} {d : PyData} (R : Rho K n F0 H0 F H σ ρ) (hi : i < n) (c : Cell K F H a d) (z : H0 a = none) (nw : ∀ j e, (j, SV.ow e) ∈ ρ → j ≠ i → σ[j]? ≠ some (some (.ref a)))
    (w : ∀ p ∈ ρ', p = (i, SV.ow d) ∨ (p ∈ ρ ∧ p.1 ≠ i)) : Rho K n F0 H0 F H (σ.set i (some (.ref a))) ρ' := by
  have same : ∀ {j : Nat} {x : Option V}, j ≠ i → σ[j]? = some x → (σ.set i (some (.ref a)))[j]? = some x := fun hj e => by
    rw [List.getElem?_set_ne (Ne.symm hj)]; exact e
  have back : ∀ {j : Nat} {x : Option V}, j ≠ i → (σ.set i (some (.ref a)))[j]? = some x → σ[j]? = some x := fun hj e => by
    rw [List.getElem?_set_ne (Ne.symm hj)] at e; exact e
  have self := set_self (x := some (.ref a)) R.len hi
  refine ⟨by rw [List.length_set]; exact R.len, R.base, fun j e m => ?_, fun j e m => ?_, fun j k d e b m1 m2 e1 e2 => ?_⟩
  · rcases w _ m with q | ⟨m', ne⟩
    · cases q
    · obtain ⟨u, e1, r1⟩ := R.sh j e m'
      exact ⟨u, same ne e1, r1⟩
  · rcases w _ m with q | ⟨m', ne⟩
    · cases q
      exact ⟨a, self, c, z⟩
    · obtain ⟨b, e1, c1⟩ := R.ow j e m'
      exact ⟨b, same ne e1, c1⟩
  · rcases w _ m1 with q1 | ⟨m1', n1⟩ <;> rcases w _ m2 with q2 | ⟨m2', n2⟩
    · cases q1; cases q2; rfl
    · cases q1
      rw [self] at e1; cases e1
      exact absurd (back n2 e2) (nw k e m2' n2)
    · cases q2
      rw [self] at e2; cases e2
      exact absurd (back n1 e1) (nw j d m1' n1)
    · exact R.inj j k d e b m1' m2' (back n1 e1) (back n2 e2)
/-- what slot i owns is changed -/
theorem Rho.mut {i : Nat} {a : Addr} {d d' : PyData} {o : HO} (R : Rho K n F0 H0 F H σ ρ) (m : (i, SV.ow d) ∈ ρ) (ea : σ[i]? = some (some (.ref a))) (c : Cell K F (upd H a o) a d')
    (w : ∀ p ∈ ρ', p = (i, SV.ow d') ∨ (p ∈ ρ ∧ p.1 ≠ i)) : Rho K n F0 H0 F (upd H a o) σ ρ' := by
  obtain ⟨a', ea', ca, z⟩ := R.ow i d m
  rw [ea] at ea'; cases ea'
  have fa : F a = none := ca.1
  refine ⟨R.len, ⟨R.base.f, fun b u e => ?_, fun b u e => ?_, R.base.fn⟩, fun j e mj => ?_, fun j e mj => ?_, fun j k d1 e b m1 m2 e1 e2 => ?_⟩
  · rw [upd_ne (ne_of_none e z)]; exact R.base.h b u e
  · rw [upd_ne (ne_of_none e fa)]; exact R.fh b u e
  · rcases w _ mj with q | ⟨m', ne⟩
    · cases q
    · exact R.sh j e m'
  · rcases w _ mj with q | ⟨m', ne⟩
    · cases q
      exact ⟨a, ea, c, z⟩
    · obtain ⟨b, e1, c1, z1⟩ := R.ow j e m'
      have hb : b ≠ a := fun q => ne (R.inj j i e d a m' m (by rw [← q]; exact e1) ea)
      refine ⟨b, e1, ⟨c1.1, ?_⟩, z1⟩
      rw [upd_ne hb]; exact c1.2
  · rcases w _ m1 with q1 | ⟨m1', n1⟩ <;> rcases w _ m2 with q2 | ⟨m2', n2⟩
    · cases q1; cases q2; rfl
    · cases q1; exact R.inj _ _ d e b m m2' e1 e2
    · cases q2; exact R.inj _ _ d1 d b m1' m e1 e2
    · exact R.inj _ _ d1 e b m1' m2' e1 e2
/-- what slot i owns is frozen -/
theorem Rho.freezeL {i : Nat} {a : Addr} {ds : List PyData} {xs : List V} (R : Rho K n F0 H0 F H σ ρ) (m : (i, SV.ow (.list ds)) ∈ ρ) (ea : σ[i]? = some (some (.ref a))) (ha : H a = some (.lst xs))
    (w : ∀ p ∈ ρ', p = (i, SV.sh (.list ds)) ∨ (p ∈ ρ ∧ p.1 ≠ i)) : Rho K n F0 H0 (upd F a (.lst xs)) H σ ρ' := by
  obtain ⟨a', ea', ca, z⟩ := R.ow i _ m
  rw [ea] at ea'; cases ea'
  have fa : F a = none := ca.1
  have rx : RpAll K F xs ds := by
    obtain ⟨_, ⟨_, _, e, r, q⟩ | ⟨_, _, e, _⟩ | ⟨_, _, e, _⟩⟩ := ca
    · rw [ha] at e; cases e; cases q; exact r
    · rw [ha] at e; cases e
    · rw [ha] at e; cases e
  have sf : Sub F (upd F a (.lst xs)) := sub_upd fa
  refine ⟨R.len, ⟨fun b u e => sf b u (R.base.f b u e), R.base.h, fun b u e => ?_, fun b hb => ?_⟩, fun j e mj => ?_, fun j e mj => ?_, fun j k d1 e b m1 m2 e1 e2 => ?_⟩
  · by_cases q : b = a
    · subst q; rw [upd_same] at e; cases e; exact ha
    · rw [upd_ne q] at e; exact R.fh b u e
  · rw [upd_ne (fun q => hb.1 (by rw [q]; exact z))]; exact R.base.fn b hb
  · rcases w _ mj with q | ⟨m', ne⟩
    · cases q
      exact ⟨.ref a, ea, .lst upd_same (rx.sub sf)⟩
    · obtain ⟨v, e1, r1⟩ := R.sh j e m'
      exact ⟨v, e1, r1.sub sf⟩
  · rcases w _ mj with q | ⟨m', ne⟩
    · cases q
    · obtain ⟨b, e1, c1, z1⟩ := R.ow j e m'
      have hb : b ≠ a := fun q => ne (R.inj j i e _ a m' m (by rw [← q]; exact e1) ea)
      refine ⟨b, e1, ⟨by rw [upd_ne hb]; exact c1.1, ?_⟩, z1⟩
      rcases c1.2 with ⟨x1, x2, x3, x4, x5⟩ | ⟨x1, x2, x3, x4, x5⟩ | ⟨x1, x2, x3, x4, x5⟩
      · exact .inl ⟨x1, x2, x3, x4.sub sf, x5⟩
      · exact .inr (.inl ⟨x1, x2, x3, x4.sub sf, x5⟩)
      · exact .inr (.inr ⟨x1, x2, x3, x4.sub sf, x5⟩)
  · have ow : ∀ j e, (j, SV.ow e) ∈ ρ' → (j, SV.ow e) ∈ ρ := fun j e mj => by
      rcases w _ mj with q | ⟨m', _⟩
      · cases q
      · exact m'
    exact R.inj j k d1 e b (ow _ _ m1) (ow _ _ m2) e1 e2
/-- .. a dict: the object is locked -/
theorem Rho.freezeD {i : Nat} {a : Addr} {d : PyData} {u : HO} (R : Rho K n F0 H0 F H σ ρ) (m : (i, SV.ow d) ∈ ρ) (ea : σ[i]? = some (some (.ref a)))
    (w : ∀ p ∈ ρ', p = (i, SV.sh d) ∨ (p ∈ ρ ∧ p.1 ≠ i)) (r : Rp K (upd F a u) (.ref a) d) (fa : F a = none) (z : H0 a = none) : Rho K n F0 H0 (upd F a u) (upd H a u) σ ρ' := by
  have sf : Sub F (upd F a u) := sub_upd fa
  refine ⟨R.len, ⟨fun b o e => sf b o (R.base.f b o e), fun b o e => ?_, sub_upd2 R.fh, fun b hb => ?_⟩, fun j e mj => ?_, fun j e mj => ?_, fun j k d1 e b m1 m2 e1 e2 => ?_⟩
  · rw [upd_ne (ne_of_none e z)]; exact R.base.h b o e
  · rw [upd_ne (fun q => hb.1 (by rw [q]; exact z))]; exact R.base.fn b hb
  · rcases w _ mj with q | ⟨m', ne⟩
    · cases q
      exact ⟨.ref a, ea, r⟩
    · obtain ⟨v, e1, r1⟩ := R.sh j e m'
      exact ⟨v, e1, r1.sub sf⟩
  · rcases w _ mj with q | ⟨m', ne⟩
    · cases q
    · obtain ⟨b, e1, c1, z1⟩ := R.ow j e m'
      have hb : b ≠ a := fun q => ne (R.inj j i e _ a m' m (by rw [← q]; exact e1) ea)
      refine ⟨b, e1, ⟨by rw [upd_ne hb]; exact c1.1, ?_⟩, z1⟩
      rw [upd_ne hb]
      rcases c1.2 with ⟨x1, x2, x3, x4, x5⟩ | ⟨x1, x2, x3, x4, x5⟩ | ⟨x1, x2, x3, x4, x5⟩
      · exact .inl ⟨x1, x2, x3, x4.sub sf, x5⟩
      · exact .inr (.inl ⟨x1, x2, x3, x4.sub sf, x5⟩)
      · exact .inr (.inr ⟨x1, x2, x3, x4.sub sf, x5⟩)
  · have ow : ∀ j e, (j, SV.ow e) ∈ ρ' → (j, SV.ow e) ∈ ρ := fun j e mj => by
      rcases w _ mj with q | ⟨m', _⟩
      · cases q
      · exact m'
    exact R.inj j k d1 e b (ow _ _ m1) (ow _ _ m2) e1 e2
end

/-! ### what is wanted behind a piece -/
def cv (K : PySem.W.Frag) (c : Str) : Value := .ref (He.ga K c)
def XdAt (H : Hp) (dx : Addr) (i : Int) : Prop := H dx = some (.xd [(("at" : Str), .int i)])
def PostV (K : PySem.W.Frag) (W : WX) (F H : Hp) (m : Res PyData) (Q : VK) : Prop := match m with
  | .ok d => ∀ v F' H', Grow F H F' H' → Rp K F' v d → Q v H'
  | .exc c i => ∀ dx F' H' σ', Grow F H F' H' → XdAt H' dx i → H dx = none → W (cv K c) (some dx) σ' H'
  | .stuck => False
def PostT (K : PySem.W.Frag) (W : WX) (F H : Hp) (m : Res Bool) (Q : Bool → Hp → Prop) : Prop := match m with
  | .ok b => ∀ F' H', Grow F H F' H' → Q b H'
  | .exc c i => ∀ dx F' H' σ', Grow F H F' H' → XdAt H' dx i → H dx = none → W (cv K c) (some dx) σ' H'
  | .stuck => False
def PostA (K : PySem.W.Frag) (W : WX) (F H : Hp) (m : Res (List PyData)) (Q : List V → Hp → Prop) : Prop := match m with
  | .ok ds => ∀ vs F' H', Grow F H F' H' → RpAll K F' vs ds → Q vs H'
  | .exc c i => ∀ dx F' H' σ', Grow F H F' H' → XdAt H' dx i → H dx = none → W (cv K c) (some dx) σ' H'
  | .stuck => False
/-- .. a list or dict that nobody else holds -/
def PostF (K : PySem.W.Frag) (W : WX) (F H : Hp) (m : Res PyData) (Q : VK) : Prop := match m with
  | .ok d => ∀ a F' H', Grow F H F' H' → H a = none → Cell K F' H' a d → Q (.ref a) H'
  | .exc c i => ∀ dx F' H' σ', Grow F H F' H' → XdAt H' dx i → H dx = none → W (cv K c) (some dx) σ' H'
  | .stuck => False
/-- .. a value that may be read: frozen, or what a slot owns -/
def RpH (K : PySem.W.Frag) (F H : Hp) (v : V) (d : PyData) : Prop := Rp K F v d ∨ ∃ a, v = .ref a ∧ Cell K F H a d
def PostW (K : PySem.W.Frag) (W : WX) (F H : Hp) (m : Res PyData) (Q : VK) : Prop := match m with
  | .ok d => ∀ v F' H', Grow F H F' H' → RpH K F' H' v d → Q v H'
  | .exc c i => ∀ dx F' H' σ', Grow F H F' H' → XdAt H' dx i → H dx = none → W (cv K c) (some dx) σ' H'
  | .stuck => False
theorem RpH.grow {K : PySem.W.Frag} {F H F1 H1 : Hp} {v : V} {d : PyData} (g : Grow F H F1 H1) (r : RpH K F H v d) : RpH K F1 H1 v d := by
  rcases r with r | ⟨a, e, c⟩
  · exact .inl (r.sub g.f)
  · exact .inr ⟨a, e, c.grow g⟩
section
variable {K : PySem.W.Frag} {W : WX} {F H F1 H1 : Hp} {α β : Type}
theorem excG {c : Str} {i : Int} {W : WX} (g : Grow F H F1 H1) (h : ∀ dx F' H' σ', Grow F H F' H' → XdAt H' dx i → H dx = none → W (cv K c) (some dx) σ' H') :
    ∀ dx F' H' σ', Grow F1 H1 F' H' → XdAt H' dx i → H1 dx = none → W (cv K c) (some dx) σ' H' :=
  fun dx F' H' σ' g' x n => h dx F' H' σ' (g.trans g') x (sub_free g.h n)
theorem PostV.grow {m : Res PyData} {Q : VK} (g : Grow F H F1 H1) (p : PostV K W F H m Q) : PostV K W F1 H1 m Q := by
  cases m with
  | ok d => exact fun v F' H' g' r => p v F' H' (g.trans g') r
  | exc c i => exact excG g p
  | stuck => exact p
theorem PostT.grow {m : Res Bool} {Q : Bool → Hp → Prop} (g : Grow F H F1 H1) (p : PostT K W F H m Q) : PostT K W F1 H1 m Q := by
  cases m with
  | ok d => exact fun F' H' g' => p F' H' (g.trans g')
  | exc c i => exact excG g p
  | stuck => exact p
theorem PostA.grow {m : Res (List PyData)} {Q : List V → Hp → Prop} (g : Grow F H F1 H1) (p : PostA K W F H m Q) : PostA K W F1 H1 m Q := by
  cases m with
  | ok d => exact fun v F' H' g' r => p v F' H' (g.trans g') r
  | exc c i => exact excG g p
  | stuck => exact p
theorem PostF.grow {m : Res PyData} {Q : VK} (g : Grow F H F1 H1) (p : PostF K W F H m Q) : PostF K W F1 H1 m Q := by
  cases m with
  | ok d => exact fun v F' H' g' n c => p v F' H' (g.trans g') (sub_free g.h n) c
  | exc c i => exact excG g p
  | stuck => exact p
/-- first a value, then what follows it -/
theorem PostV.bindG {m : Res α} [Enc α] {k : α → Res β} {P : Hp → Hp → Res β → Prop} {Q : VK} (p : P F H (m >>= k))
    (ex : ∀ c i, P F H (.exc c i) → ∀ dx F' H' σ', Grow F H F' H' → XdAt H' dx i → H dx = none → W (cv K c) (some dx) σ' H') (st : P F H .stuck → False)
    (go : ∀ x v F1 H1, m = .ok x → Grow F H F1 H1 → Rp K F1 v (toD x) → P F H (k x) → Q v H1) : PostV K W F H (m.map toD) Q := by
  cases m with
  | ok x => exact fun v F' H' g r => go x v F' H' rfl g r p
  | exc c i => exact ex c i p
  | stuck => exact st p
theorem PostT.bindG {m : Res Bool} {k : Bool → Res β} {P : Hp → Hp → Res β → Prop} {Q : Bool → Hp → Prop} (p : P F H (m >>= k))
    (ex : ∀ c i, P F H (.exc c i) → ∀ dx F' H' σ', Grow F H F' H' → XdAt H' dx i → H dx = none → W (cv K c) (some dx) σ' H') (st : P F H .stuck → False)
    (go : ∀ x F1 H1, m = .ok x → Grow F H F1 H1 → P F H (k x) → Q x H1) : PostT K W F H m Q := by
  cases m with
  | ok x => exact fun F' H' g => go x F' H' rfl g p
  | exc c i => exact ex c i p
  | stuck => exact st p
theorem PostV.bind {m : Res α} [Enc α] {k : α → Res PyData} {Q : VK} (p : PostV K W F H (m >>= k) Q) : PostV K W F H (m.map toD) (fun v H1 => ∃ F1 x, m = .ok x ∧ Grow F H F1 H1 ∧ Rp K F1 v (toD x) ∧ PostV K W F1 H1 (k x) Q) := by
  cases m with
  | ok x => exact fun v F' H' g r => ⟨F', x, rfl, g, r, PostV.grow g (m := k x) p⟩
  | exc c i => exact p
  | stuck => exact p
theorem PostV.bindT {m : Res Bool} {k : Bool → Res PyData} {Q : VK} (p : PostV K W F H (m >>= k) Q) : PostT K W F H m (fun b H1 => ∃ F1, Grow F H F1 H1 ∧ PostV K W F1 H1 (k b) Q) := by
  cases m with
  | ok x => exact fun F' H' g => ⟨F', g, PostV.grow g (m := k x) p⟩
  | exc c i => exact p
  | stuck => exact p
theorem PostT.bind {m : Res α} [Enc α] {k : α → Res Bool} {Q : Bool → Hp → Prop} (p : PostT K W F H (m >>= k) Q) : PostV K W F H (m.map toD) (fun v H1 => ∃ F1 x, m = .ok x ∧ Grow F H F1 H1 ∧ Rp K F1 v (toD x) ∧ PostT K W F1 H1 (k x) Q) := by
  cases m with
  | ok x => exact fun v F' H' g r => ⟨F', x, rfl, g, r, PostT.grow g (m := k x) p⟩
  | exc c i => exact p
  | stuck => exact p
theorem PostT.bindT {m : Res Bool} {k : Bool → Res Bool} {Q : Bool → Hp → Prop} (p : PostT K W F H (m >>= k) Q) : PostT K W F H m (fun b H1 => ∃ F1, Grow F H F1 H1 ∧ PostT K W F1 H1 (k b) Q) := by
  cases m with
  | ok x => exact fun F' H' g => ⟨F', g, PostT.grow g (m := k x) p⟩
  | exc c i => exact p
  | stuck => exact p
theorem PostA.bind {m : Res α} [Enc α] {k : α → Res (List PyData)} {Q : List V → Hp → Prop} (p : PostA K W F H (m >>= k) Q) : PostV K W F H (m.map toD) (fun v H1 => ∃ F1 x, m = .ok x ∧ Grow F H F1 H1 ∧ Rp K F1 v (toD x) ∧ PostA K W F1 H1 (k x) Q) := by
  cases m with
  | ok x => exact fun v F' H' g r => ⟨F', x, rfl, g, r, PostA.grow g (m := k x) p⟩
  | exc c i => exact p
  | stuck => exact p
theorem PostF.bind {m : Res α} [Enc α] {k : α → Res PyData} {Q : VK} (p : PostF K W F H (m >>= k) Q) : PostV K W F H (m.map toD) (fun v H1 => ∃ F1 x, m = .ok x ∧ Grow F H F1 H1 ∧ Rp K F1 v (toD x) ∧ PostF K W F1 H1 (k x) Q) := by
  cases m with
  | ok x => exact fun v F' H' g r => ⟨F', x, rfl, g, r, PostF.grow g (m := k x) p⟩
  | exc c i => exact p
  | stuck => exact p
theorem PostW.grow {m : Res PyData} {Q : VK} (g : Grow F H F1 H1) (p : PostW K W F H m Q) : PostW K W F1 H1 m Q := by
  cases m with
  | ok d => exact fun v F' H' g' r => p v F' H' (g.trans g') r
  | exc c i => exact excG g p
  | stuck => exact p
theorem PostV.bindW {m : Res α} [Enc α] {k : α → Res (PyData)} {Q : VK} (p : PostV K W F H (m >>= k) Q) : PostW K W F H (m.map toD) (fun v H1 => ∃ F1 x, m = .ok x ∧ Grow F H F1 H1 ∧ RpH K F1 H1 v (toD x) ∧ PostV K W F1 H1 (k x) Q) := by
  cases m with
  | ok x => exact fun v F' H' g r => ⟨F', x, rfl, g, r, PostV.grow g (m := k x) p⟩
  | exc c i => exact p
  | stuck => exact p
theorem PostT.bindW {m : Res α} [Enc α] {k : α → Res (Bool)} {Q : Bool → Hp → Prop} (p : PostT K W F H (m >>= k) Q) : PostW K W F H (m.map toD) (fun v H1 => ∃ F1 x, m = .ok x ∧ Grow F H F1 H1 ∧ RpH K F1 H1 v (toD x) ∧ PostT K W F1 H1 (k x) Q) := by
  cases m with
  | ok x => exact fun v F' H' g r => ⟨F', x, rfl, g, r, PostT.grow g (m := k x) p⟩
  | exc c i => exact p
  | stuck => exact p
theorem PostA.bindW {m : Res α} [Enc α] {k : α → Res (List PyData)} {Q : List V → Hp → Prop} (p : PostA K W F H (m >>= k) Q) : PostW K W F H (m.map toD) (fun v H1 => ∃ F1 x, m = .ok x ∧ Grow F H F1 H1 ∧ RpH K F1 H1 v (toD x) ∧ PostA K W F1 H1 (k x) Q) := by
  cases m with
  | ok x => exact fun v F' H' g r => ⟨F', x, rfl, g, r, PostA.grow g (m := k x) p⟩
  | exc c i => exact p
  | stuck => exact p
theorem PostF.bindW {m : Res α} [Enc α] {k : α → Res (PyData)} {Q : VK} (p : PostF K W F H (m >>= k) Q) : PostW K W F H (m.map toD) (fun v H1 => ∃ F1 x, m = .ok x ∧ Grow F H F1 H1 ∧ RpH K F1 H1 v (toD x) ∧ PostF K W F1 H1 (k x) Q) := by
  cases m with
  | ok x => exact fun v F' H' g r => ⟨F', x, rfl, g, r, PostF.grow g (m := k x) p⟩
  | exc c i => exact p
  | stuck => exact p
theorem PostW.bindW {m : Res α} [Enc α] {k : α → Res (PyData)} {Q : VK} (p : PostW K W F H (m >>= k) Q) : PostW K W F H (m.map toD) (fun v H1 => ∃ F1 x, m = .ok x ∧ Grow F H F1 H1 ∧ RpH K F1 H1 v (toD x) ∧ PostW K W F1 H1 (k x) Q) := by
  cases m with
  | ok x => exact fun v F' H' g r => ⟨F', x, rfl, g, r, PostW.grow g (m := k x) p⟩
  | exc c i => exact p
  | stuck => exact p
theorem PostW.bind {m : Res α} [Enc α] {k : α → Res (PyData)} {Q : VK} (p : PostW K W F H (m >>= k) Q) : PostV K W F H (m.map toD) (fun v H1 => ∃ F1 x, m = .ok x ∧ Grow F H F1 H1 ∧ Rp K F1 v (toD x) ∧ PostW K W F1 H1 (k x) Q) := by
  cases m with
  | ok x => exact fun v F' H' g r => ⟨F', x, rfl, g, r, PostW.grow g (m := k x) p⟩
  | exc c i => exact p
  | stuck => exact p
theorem PostV.bindA {m : Res (List PyData)} {k : List PyData → Res PyData} {Q : VK} (p : PostV K W F H (m >>= k) Q) : PostA K W F H m (fun vs H1 => ∃ F1 ds, m = .ok ds ∧ Grow F H F1 H1 ∧ RpAll K F1 vs ds ∧ PostV K W F1 H1 (k ds) Q) := by
  cases m with
  | ok x => exact fun v F' H' g r => ⟨F', x, rfl, g, r, PostV.grow g (m := k x) p⟩
  | exc c i => exact p
  | stuck => exact p
theorem PostF.bindA {m : Res (List PyData)} {k : List PyData → Res PyData} {Q : VK} (p : PostF K W F H (m >>= k) Q) : PostA K W F H m (fun vs H1 => ∃ F1 ds, m = .ok ds ∧ Grow F H F1 H1 ∧ RpAll K F1 vs ds ∧ PostF K W F1 H1 (k ds) Q) := by
  cases m with
  | ok x => exact fun v F' H' g r => ⟨F', x, rfl, g, r, PostF.grow g (m := k x) p⟩
  | exc c i => exact p
  | stuck => exact p
end

/-- how a block ends -/
inductive Fi where
  | nx (ρ : Rs)
  | rt (d : PyData)
  | bk (ρ : Rs)
def PostS (K : PySem.W.Frag) (n : Nat) (W : WX) {τ : Type} (F0 H0 F : Hp) (m : Res τ) (fin : τ → Fi) (D : Ends) : Prop := match m with
  | .ok t => (match fin t with
    | .nx ρ' => ∀ σ' F' H', Rho K n F0 H0 F' H' σ' ρ' → Sub F F' → D.nx σ' H'
    | .rt d => ∀ v F' H', Grow F0 H0 F' H' → Rp K F' v d → D.rt v H'
    | .bk ρ' => ∀ σ' F' H', Rho K n F0 H0 F' H' σ' ρ' → Sub F F' → D.bk σ' H')
  | .exc c i => ∀ dx F' H' σ', Grow F0 H0 F' H' → XdAt H' dx i → H0 dx = none → W (cv K c) (some dx) σ' H'
  | .stuck => False
section
variable {K : PySem.W.Frag} {n : Nat} {W : WX} {F0 H0 F H F1 H1 : Hp} {σ : St} {ρ : Rs} {α τ : Type} {fin : τ → Fi} {D : Ends}
theorem Sub.trans {F F1 F2 : Hp} (a : Sub F F1) (b : Sub F1 F2) : Sub F F2 := fun x o e => b x o (a x o e)
theorem PostS.sub {m : Res τ} (s : Sub F F1) (p : PostS K n W F0 H0 F m fin D) : PostS K n W F0 H0 F1 m fin D := by
  cases m with
  | ok t =>
    have p' : (match fin t with
      | .nx ρ' => ∀ σ' F' H', Rho K n F0 H0 F' H' σ' ρ' → Sub F F' → D.nx σ' H'
      | .rt d => ∀ v F' H', Grow F0 H0 F' H' → Rp K F' v d → D.rt v H'
      | .bk ρ' => ∀ σ' F' H', Rho K n F0 H0 F' H' σ' ρ' → Sub F F' → D.bk σ' H') := p
    show (match fin t with
      | .nx ρ' => ∀ σ' F' H', Rho K n F0 H0 F' H' σ' ρ' → Sub F1 F' → D.nx σ' H'
      | .rt d => ∀ v F' H', Grow F0 H0 F' H' → Rp K F' v d → D.rt v H'
      | .bk ρ' => ∀ σ' F' H', Rho K n F0 H0 F' H' σ' ρ' → Sub F1 F' → D.bk σ' H')
    cases e : fin t with
    | nx ρ' => rw [e] at p'; exact fun σ' F' H' r q => p' σ' F' H' r (s.trans q)
    | rt d => rw [e] at p'; exact p'
    | bk ρ' => rw [e] at p'; exact fun σ' F' H' r q => p' σ' F' H' r (s.trans q)
  | exc c i => exact p
  | stuck => exact p
theorem PostS.bind {m : Res α} [Enc α] {k : α → Res τ} (R : Rho K n F0 H0 F H σ ρ) (p : PostS K n W F0 H0 F (m >>= k) fin D) :
    PostV K W F H (m.map toD) (fun v H1 => ∃ F1 x, m = .ok x ∧ Grow F H F1 H1 ∧ Rp K F1 v (toD x) ∧ PostS K n W F0 H0 F1 (k x) fin D) := by
  cases m with
  | ok x => exact fun v F' H' g r => ⟨F', x, rfl, g, r, PostS.sub (m := k x) g.f p⟩
  | exc c i => exact excG R.base p
  | stuck => exact p
theorem PostS.bindW {m : Res α} [Enc α] {k : α → Res τ} (R : Rho K n F0 H0 F H σ ρ) (p : PostS K n W F0 H0 F (m >>= k) fin D) :
    PostW K W F H (m.map toD) (fun v H1 => ∃ F1 x, m = .ok x ∧ Grow F H F1 H1 ∧ RpH K F1 H1 v (toD x) ∧ PostS K n W F0 H0 F1 (k x) fin D) := by
  cases m with
  | ok x => exact fun v F' H' g r => ⟨F', x, rfl, g, r, PostS.sub (m := k x) g.f p⟩
  | exc c i => exact excG R.base p
  | stuck => exact p
theorem PostS.bindF {m : Res α} [Enc α] {k : α → Res τ} (R : Rho K n F0 H0 F H σ ρ) (p : PostS K n W F0 H0 F (m >>= k) fin D) :
    PostF K W F H (m.map toD) (fun v H1 => ∃ F1 x a, v = .ref a ∧ m = .ok x ∧ Grow F H F1 H1 ∧ H a = none ∧ Cell K F1 H1 a (toD x) ∧ PostS K n W F0 H0 F1 (k x) fin D) := by
  cases m with
  | ok x => exact fun a F' H' g z c => ⟨F', x, a, rfl, rfl, g, z, c, PostS.sub (m := k x) g.f p⟩
  | exc c i => exact excG R.base p
  | stuck => exact p
theorem PostS.bindT {m : Res Bool} {k : Bool → Res τ} (R : Rho K n F0 H0 F H σ ρ) (p : PostS K n W F0 H0 F (m >>= k) fin D) :
    PostT K W F H m (fun b H1 => ∃ F1, m = .ok b ∧ Grow F H F1 H1 ∧ PostS K n W F0 H0 F1 (k b) fin D) := by
  cases m with
  | ok x => exact fun F' H' g => ⟨F', rfl, g, PostS.sub (m := k x) g.f p⟩
  | exc c i => exact excG R.base p
  | stuck => exact p
end

/-! ### the judgements -/
def rdV (K : PySem.W.Frag) (n : Nat) (W : WX) (ρ : Rs) (m : Res PyData) : TE := fun σ H Q => ∃ F0 H0 F, Rho K n F0 H0 F H σ ρ ∧ PostV K W F H m Q
def rdF (K : PySem.W.Frag) (n : Nat) (W : WX) (ρ : Rs) (m : Res PyData) : TE := fun σ H Q => ∃ F0 H0 F, Rho K n F0 H0 F H σ ρ ∧ PostF K W F H m Q
def rdT (K : PySem.W.Frag) (n : Nat) (W : WX) (ρ : Rs) (m : Res Bool) : TT := fun σ H Q => ∃ F0 H0 F, Rho K n F0 H0 F H σ ρ ∧ PostT K W F H m Q
def rdA (K : PySem.W.Frag) (n : Nat) (W : WX) (ρ : Rs) (m : Res (List PyData)) : TA := fun σ H Q => ∃ F0 H0 F, Rho K n F0 H0 F H σ ρ ∧ PostA K W F H m Q
def rdS (K : PySem.W.Frag) (n : Nat) (W : WX) {τ : Type} (ρ : Rs) (m : Res τ) (fin : τ → Fi) : TS := fun D σ H => ∃ F0 H0 F, Rho K n F0 H0 F H σ ρ ∧ PostS K n W F0 H0 F m fin D
abbrev XV (X : Cx) (W : WX) (ρ : Rs) {α : Type} [Enc α] (e : Expr) (m : Res α) : Prop := PE X e (rdV X.K X.N.length W ρ (m.map toD))
def rdW (K : PySem.W.Frag) (n : Nat) (W : WX) (ρ : Rs) (m : Res PyData) : TE := fun σ H Q => ∃ F0 H0 F, Rho K n F0 H0 F H σ ρ ∧ PostW K W F H m Q
abbrev XW (X : Cx) (W : WX) (ρ : Rs) {α : Type} [Enc α] (e : Expr) (m : Res α) : Prop := PE X e (rdW X.K X.N.length W ρ (m.map toD))
abbrev XF (X : Cx) (W : WX) (ρ : Rs) {α : Type} [Enc α] (e : Expr) (m : Res α) : Prop := PE X e (rdF X.K X.N.length W ρ (m.map toD))
abbrev XT (X : Cx) (W : WX) (ρ : Rs) (e : Expr) (m : Res Bool) : Prop := PT X e (rdT X.K X.N.length W ρ m)
abbrev XA (X : Cx) (W : WX) (ρ : Rs) (es : List Expr) (m : Res (List PyData)) : Prop := PA X es (rdA X.K X.N.length W ρ m)
abbrev XB (X : Cx) (W : WX) (ρ : Rs) {τ : Type} (sts : List Stmt) (m : Res τ) (fin : τ → Fi) : Prop := PSs X sts (rdS X.K X.N.length W ρ m fin)
section
variable {X : Cx}
theorem PE.imp {e : Expr} {t t' : TE} (h : PE X e t) (hi : ∀ σ H Q, t' σ H Q → t σ H Q) : PE X e t' := ⟨fun pins s σ H Q I q => h.run pins s σ H Q I (hi σ H Q q)⟩
theorem PT.imp {e : Expr} {t t' : TT} (h : PT X e t) (hi : ∀ σ H Q, t' σ H Q → t σ H Q) : PT X e t' := ⟨fun pins s σ H Q I q => h.run pins s σ H Q I (hi σ H Q q)⟩
theorem PW.imp {e : Expr} {t t' : TT} (h : PW X e t) (hi : ∀ σ H Q, t' σ H Q → t σ H Q) : PW X e t' := ⟨fun wh pins s σ H Q I q => h.run wh pins s σ H Q I (hi σ H Q q)⟩
theorem PA.imp {es : List Expr} {t t' : TA} (h : PA X es t) (hi : ∀ σ H Q, t' σ H Q → t σ H Q) : PA X es t' := ⟨fun pos pins s σ H Q I q => h.run pos pins s σ H Q I (hi σ H Q q)⟩
theorem PS.imp {st : Stmt} {t t' : TS} (h : PS X st t) (hi : ∀ D σ H, t' D σ H → t D σ H) : PS X st t' := ⟨fun pins s σ H D I q => h.run pins s σ H D I (hi D σ H q)⟩
theorem PSs.imp {sts : List Stmt} {t t' : TS} (h : PSs X sts t) (hi : ∀ D σ H, t' D σ H → t D σ H) : PSs X sts t' := ⟨fun pins s σ H D I q => h.run pins s σ H D I (hi D σ H q)⟩
theorem PE.ex {ι : Type} {e : Expr} {t : ι → TE} (h : ∀ i, PE X e (t i)) : PE X e (fun σ H Q => ∃ i, t i σ H Q) := ⟨fun pins s σ H Q I ⟨i, q⟩ => (h i).run pins s σ H Q I q⟩
theorem PT.ex {ι : Type} {e : Expr} {t : ι → TT} (h : ∀ i, PT X e (t i)) : PT X e (fun σ H Q => ∃ i, t i σ H Q) := ⟨fun pins s σ H Q I ⟨i, q⟩ => (h i).run pins s σ H Q I q⟩
theorem PSs.ex {ι : Type} {sts : List Stmt} {t : ι → TS} (h : ∀ i, PSs X sts (t i)) : PSs X sts (fun D σ H => ∃ i, t i D σ H) := ⟨fun pins s σ H D I ⟨i, q⟩ => (h i).run pins s σ H D I q⟩
theorem XB.weak {W : WX} {ρ ρ' : Rs} {τ : Type} {sts : List Stmt} {m : Res τ} {fin : τ → Fi} (h : XB X W ρ' sts m fin) (w : ∀ p ∈ ρ', p ∈ ρ) : XB X W ρ sts m fin :=
  PSs.imp h fun D σ H ⟨F0, H0, F, R, p⟩ => ⟨F0, H0, F, R.weak w, p⟩
end
end Vs
end
section
set_option Elab.async false
set_option linter.all false
set_option maxRecDepth 100000
set_option maxHeartbeats 1000000
/-! Vs2: rules for expressions. -/
namespace Vs
open Enc (toD)
open PySem PySem.Spec PyProof.Rows L2

/-! ### data that can be compared -/
class PyEq (α : Type) [Enc α] [DecidableEq α] where
  dp : Nat
  eqv : ∀ a b : α, PyData.eqv (toD a) (toD b) = decide (a = b)
  lay : ∀ a : α, (toD a).canLay0 = true
  dep : ∀ a : α, (toD a).depth ≤ dp
class NN (α : Type) [Enc α] : Prop where
  nn : ∀ a : α, toD a ≠ .none
section
variable {α β γ δ ε : Type} [Enc α] [Enc β] [Enc γ] [Enc δ] [Enc ε] [DecidableEq α] [DecidableEq β] [DecidableEq γ] [DecidableEq δ] [DecidableEq ε]
theorem beq_dec {α : Type} [BEq α] [LawfulBEq α] [DecidableEq α] (a b : α) : (a == b) = decide (a = b) := by
  by_cases h : a = b
  · subst h; simp
  · rw [decide_eq_false h]; exact beq_eq_false_iff_ne.mpr h
instance : PyEq Int := ⟨0, fun a b => by show PyData.eqv (.int a) (.int b) = _; rw [PyData.eqv]; exact beq_dec a b, fun a => by show PyData.canLay0 (.int a) = true; rw [PyData.canLay0], fun a => by show PyData.depth (.int a) ≤ 0; rw [PyData.depth]; exact Nat.le_refl _⟩
instance : PyEq Bool := ⟨0, fun a b => by show PyData.eqv (.bool a) (.bool b) = _; rw [PyData.eqv]; exact beq_dec a b, fun a => by show PyData.canLay0 (.bool a) = true; rw [PyData.canLay0], fun a => by show PyData.depth (.bool a) ≤ 0; rw [PyData.depth]; exact Nat.le_refl _⟩
instance : PyEq Unit := ⟨0, fun a b => by show PyData.eqv .none .none = _; rw [PyData.eqv]; simp, fun a => by show PyData.canLay0 .none = true; rw [PyData.canLay0], fun a => by show PyData.depth .none ≤ 0; rw [PyData.depth]; exact Nat.le_refl _⟩
instance : PyEq PStr := ⟨0, fun a b => by
    show PyData.eqv (.str a.1) (.str b.1) = _
    rw [PyData.eqv, beq_dec]
    by_cases h : a = b
    · subst h; simp
    · rw [decide_eq_false h, decide_eq_false fun e => h (Subtype.ext e)], fun a => by
    show PyData.canLay0 (.str a.1) = true
    rw [PyData.canLay0]
    exact a.2, fun a => by show PyData.depth (.str a.1) ≤ 0; rw [PyData.depth]; exact Nat.le_refl _⟩
theorem eqvAll_map [PyEq α] : ∀ xs ys : List α, PyData.eqvAll (xs.map toD) (ys.map toD) = decide (xs = ys)
  | [], [] => by simp [PyData.eqvAll]
  | [], y :: ys => by simp [PyData.eqvAll]
  | x :: xs, [] => by simp [PyData.eqvAll]
  | x :: xs, y :: ys => by
    rw [List.map_cons, List.map_cons, PyData.eqvAll, PyEq.eqv, eqvAll_map xs ys]
    by_cases h : x = y <;> by_cases h2 : xs = ys <;> simp [h, h2]
theorem layAll_map [PyEq α] : ∀ xs : List α, PyData.canLayAll0 (xs.map toD) = true
  | [] => by simp [PyData.canLayAll0]
  | x :: xs => by rw [List.map_cons, PyData.canLayAll0, PyEq.lay, layAll_map xs]; rfl
theorem depAll_map [PyEq α] : ∀ xs : List α, PyData.depthAll (xs.map toD) ≤ PyEq.dp α
  | [] => by simp [PyData.depthAll]
  | x :: xs => by
    rw [List.map_cons, PyData.depthAll]
    exact Nat.max_le.mpr ⟨PyEq.dep x, depAll_map xs⟩
instance [PyEq α] : PyEq (List α) := ⟨PyEq.dp α + 1, fun a b => by
    show PyData.eqv (.list (a.map toD)) (.list (b.map toD)) = _
    rw [PyData.eqv, eqvAll_map], fun a => by
    show PyData.canLay0 (.list (a.map toD)) = true
    rw [PyData.canLay0, layAll_map], fun a => by
    show PyData.depth (.list (a.map toD)) ≤ _
    rw [PyData.depth]
    exact Nat.succ_le_succ (depAll_map a)⟩
instance [PyEq α] : PyEq (Tup α) := ⟨PyEq.dp α + 1, fun a b => by
    show PyData.eqv (.tuple (a.l.map toD)) (.tuple (b.l.map toD)) = _
    rw [PyData.eqv, eqvAll_map]
    cases a; cases b; simp, fun a => by
    show PyData.canLay0 (.tuple (a.l.map toD)) = true
    rw [PyData.canLay0, layAll_map], fun a => by
    show PyData.depth (.tuple (a.l.map toD)) ≤ _
    rw [PyData.depth]
    exact Nat.succ_le_succ (depAll_map a.l)⟩
instance [PyEq α] [PyEq β] : PyEq (α × β) := ⟨max (PyEq.dp α) (PyEq.dp β) + 1, fun a b => by
    show PyData.eqv (.tuple [toD a.1, toD a.2]) (.tuple [toD b.1, toD b.2]) = _
    simp only [PyData.eqv, PyData.eqvAll, PyEq.eqv, Bool.and_true]
    obtain ⟨a1, a2⟩ := a
    obtain ⟨b1, b2⟩ := b
    simp only [Prod.mk.injEq, Bool.decide_and], fun a => by
    show PyData.canLay0 (.tuple [toD a.1, toD a.2]) = true
    simp only [PyData.canLay0, PyData.canLayAll0, PyEq.lay, Bool.and_true], fun a => by
    show PyData.depth (.tuple [toD a.1, toD a.2]) ≤ _
    simp only [PyData.depth, PyData.depthAll]
    have h1 := PyEq.dep a.1
    have h2 := PyEq.dep a.2
    omega⟩
instance [PyEq α] [PyEq β] [PyEq γ] : PyEq (T3 α β γ) := ⟨max (PyEq.dp α) (max (PyEq.dp β) (PyEq.dp γ)) + 1, fun a b => by
    show PyData.eqv (.tuple [toD a.a, toD a.b, toD a.c]) (.tuple [toD b.a, toD b.b, toD b.c]) = _
    simp only [PyData.eqv, PyData.eqvAll, PyEq.eqv, Bool.and_true]
    obtain ⟨a1, a2, a3⟩ := a
    obtain ⟨b1, b2, b3⟩ := b
    simp only [T3.mk.injEq, Bool.decide_and], fun a => by
    show PyData.canLay0 (.tuple [toD a.a, toD a.b, toD a.c]) = true
    simp only [PyData.canLay0, PyData.canLayAll0, PyEq.lay, Bool.and_true], fun a => by
    show PyData.depth (.tuple [toD a.a, toD a.b, toD a.c]) ≤ _
    simp only [PyData.depth, PyData.depthAll]
    have h1 := PyEq.dep a.a
    have h2 := PyEq.dep a.b
    have h3 := PyEq.dep a.c
    omega⟩
instance [PyEq α] [PyEq β] [PyEq γ] [PyEq δ] : PyEq (T4 α β γ δ) := ⟨max (PyEq.dp α) (max (PyEq.dp β) (max (PyEq.dp γ) (PyEq.dp δ))) + 1, fun a b => by
    show PyData.eqv (.tuple [toD a.a, toD a.b, toD a.c, toD a.d]) (.tuple [toD b.a, toD b.b, toD b.c, toD b.d]) = _
    simp only [PyData.eqv, PyData.eqvAll, PyEq.eqv, Bool.and_true]
    obtain ⟨a1, a2, a3, a4⟩ := a
    obtain ⟨b1, b2, b3, b4⟩ := b
    simp only [T4.mk.injEq, Bool.decide_and], fun a => by
    show PyData.canLay0 (.tuple [toD a.a, toD a.b, toD a.c, toD a.d]) = true
    simp only [PyData.canLay0, PyData.canLayAll0, PyEq.lay, Bool.and_true], fun a => by
    show PyData.depth (.tuple [toD a.a, toD a.b, toD a.c, toD a.d]) ≤ _
    simp only [PyData.depth, PyData.depthAll]
    have h1 := PyEq.dep a.a
    have h2 := PyEq.dep a.b
    have h3 := PyEq.dep a.c
    have h4 := PyEq.dep a.d
    omega⟩
instance : NN Int := ⟨fun a h => by cases h⟩
instance : NN Bool := ⟨fun a h => by cases h⟩
instance : NN PStr := ⟨fun a h => by cases h⟩
instance {α : Type} [Enc α] : NN (List α) := ⟨fun a h => by cases h⟩
instance {α : Type} [Enc α] : NN (Tup α) := ⟨fun a h => by cases h⟩
instance {α β : Type} [Enc α] [Enc β] : NN (α × β) := ⟨fun a h => by cases h⟩
instance {α β γ : Type} [Enc α] [Enc β] [Enc γ] : NN (T3 α β γ) := ⟨fun a h => by cases h⟩
instance {α β γ δ : Type} [Enc α] [Enc β] [Enc γ] [Enc δ] : NN (T4 α β γ δ) := ⟨fun a h => by cases h⟩
instance {α β γ δ ε : Type} [Enc α] [Enc β] [Enc γ] [Enc δ] [Enc ε] : NN (T5 α β γ δ ε) := ⟨fun a h => by cases h⟩
theorem eqv_none_l {d : PyData} (h : d ≠ .none) : PyData.eqv .none d = false := by
  cases d <;> first | exact absurd rfl h | simp [PyData.eqv]
theorem eqv_none_r {d : PyData} (h : d ≠ .none) : PyData.eqv d .none = false := by
  cases d <;> first | exact absurd rfl h | simp [PyData.eqv]
instance [PyEq α] [NN α] : PyEq (Option α) := ⟨PyEq.dp α, fun a b => by
    cases a with
    | none => cases b with
      | none => show PyData.eqv .none .none = _; simp [PyData.eqv]
      | some b => show PyData.eqv .none (toD b) = _; rw [eqv_none_l (NN.nn b)]; simp
    | some a => cases b with
      | none => show PyData.eqv (toD a) .none = _; rw [eqv_none_r (NN.nn a)]; simp
      | some b => show PyData.eqv (toD a) (toD b) = _; rw [PyEq.eqv]; simp, fun a => by
    cases a with
    | none => show PyData.canLay0 .none = true; rw [PyData.canLay0]
    | some a => exact PyEq.lay a, fun a => by
    cases a with
    | none => show PyData.depth .none ≤ _; rw [PyData.depth]; exact Nat.zero_le _
    | some a => exact PyEq.dep a⟩
end

/-! ### names and constants -/
section
variable {X : Cx} {W : WX} {ρ : Rs} {pos : Pos} {α β γ δ : Type} [Enc α] [Enc β] [Enc γ] [Enc δ]
theorem XV.w {e : Expr} {m : Res α} (h : XV X W ρ e m) : XW X W ρ e m := PE.imp h fun σ H Q ⟨F0, H0, F, R, p⟩ => ⟨F0, H0, F, R, by
  cases m with
  | ok d => exact fun v F' H' g r => p v F' H' g (.inl r)
  | exc c i => exact p
  | stuck => exact p⟩
/-- the k-th of the known slots -/
theorem XV.var (k : Nat) {i : Nat} {x : α} {nm : Str} (h : ρ[k]? = some (i, SV.sh (toD x))) (hN : X.N[i]? = some nm := by rfl) (hv : Vis X.env.scope nm := by first | exact Or.inl rfl | exact Or.inr (Or.inl rfl) | exact Or.inr (Or.inr rfl))
    (hd : (nm == ("__debug__" : Str)) = false := by decide) (hcd : (nm == ("__classdict__" : Str)) = false := by decide) : XV X W ρ (.Name nm pos) (.ok x) := by
  refine PE.imp (pe_var hN hv hd hcd) fun σ H Q ⟨F0, H0, F, R, p⟩ => ?_
  obtain ⟨v, e, r⟩ := R.sh i _ (List.mem_of_getElem? h)
  exact ⟨v, e, p v F H (.refl R.fh) r⟩
theorem XW.own (k : Nat) {i : Nat} {x : α} {nm : Str} (h : ρ[k]? = some (i, SV.ow (toD x))) (hN : X.N[i]? = some nm := by rfl) (hv : Vis X.env.scope nm := by first | exact Or.inl rfl | exact Or.inr (Or.inl rfl) | exact Or.inr (Or.inr rfl))
    (hd : (nm == ("__debug__" : Str)) = false := by decide) (hcd : (nm == ("__classdict__" : Str)) = false := by decide) : XW X W ρ (.Name nm pos) (.ok x) := by
  refine PE.imp (pe_var hN hv hd hcd) fun σ H Q ⟨F0, H0, F, R, p⟩ => ?_
  obtain ⟨a, e, c, _⟩ := R.ow i _ (List.mem_of_getElem? h)
  exact ⟨.ref a, e, p _ F H (.refl R.fh) (.inr ⟨a, rfl, c⟩)⟩
theorem XV.int {i : Int} {j : Nat} : XV X W ρ (.Constant (.int i) j pos) (.ok i) := PE.imp pe_int fun σ H Q ⟨F0, H0, F, R, p⟩ => p _ F H (.refl R.fh) (.int i)
theorem XV.bool {b : Bool} {j : Nat} : XV X W ρ (.Constant (.bool b) j pos) (.ok b) := PE.imp pe_bl fun σ H Q ⟨F0, H0, F, R, p⟩ => p _ F H (.refl R.fh) (.bl b)
theorem XV.noneC {j : Nat} : XV X W ρ (.Constant .none j pos) (.ok (none : Option α)) := PE.imp pe_non fun σ H Q ⟨F0, H0, F, R, p⟩ => p _ F H (.refl R.fh) .non
theorem XV.unit {j : Nat} : XV X W ρ (.Constant .none j pos) (.ok ()) := PE.imp pe_non fun σ H Q ⟨F0, H0, F, R, p⟩ => p _ F H (.refl R.fh) .non
theorem XV.str {x : PStr} {j : Nat} : XV X W ρ (.Constant (.str x.1) j pos) (.ok x) := PE.imp pe_str fun σ H Q ⟨F0, H0, F, R, p⟩ => p _ F H (.refl R.fh) (.str x.1)
/-- a constant of the module -/
theorem XV.glob {x : Str} {v : V} {u : Value} {a : α} (hg : Gl X x) (hm : X.mg x = some u) (r : RelV v u) (hr : ∀ F, Rp X.K F v (toD a)) (hd : (x == ("__debug__" : Str)) = false := by decide) : XV X W ρ (.Name x pos) (.ok a) :=
  PE.imp (pe_glob hg hm r hd) fun σ H Q ⟨F0, H0, F, R, p⟩ => p _ F H (.refl R.fh) (hr F)
/-- a value where None may be as well -/
theorem XV.someC {e : Expr} {m : Res α} (h : XV X W ρ e m) : XV X W ρ e (m >>= fun x => .ok (some x)) := PE.imp h fun σ H Q ⟨F0, H0, F, R, p⟩ => ⟨F0, H0, F, R, by cases m <;> exact p⟩
theorem XV.eq {e : Expr} {m m' : Res α} (h : XV X W ρ e m) (q : m' = m) : XV X W ρ e m' := by rw [q]; exact h

/-! ### operators -/
def rdOp (K : PySem.W.Frag) (f : α → β → Res γ) : R2 := fun vx vy H Q => ∃ F x y z, Sub F H ∧ Rp K F vx (toD x) ∧ Rp K F vy (toD y) ∧ f x y = .ok z ∧ ∀ v F' H', Grow F H F' H' → Rp K F' v (toD z) → Q v H'
structure OpOk (X : Cx) (o : Operator) (f : α → β → Res γ) : Prop where
  run : OpR X (binaryOp o) (rdOp X.K f)
  no : ∀ x y c i, f x y ≠ .exc c i
theorem post_op {K : PySem.W.Frag} {F H : Hp} {f : α → β → Res γ} {x : α} {y : β} {Q : VK} (no : ∀ x y c i, f x y ≠ .exc c i) (p : PostV K W F H ((f x y).map toD) Q) : ∃ z, f x y = .ok z ∧ ∀ v F' H', Grow F H F' H' → Rp K F' v (toD z) → Q v H' := by
  cases e : f x y with
  | ok z => rw [e] at p; exact ⟨z, rfl, p⟩
  | exc c i => exact absurd e (no x y c i)
  | stuck => rw [e] at p; exact p.elim
theorem OpR.imp {f : Value → Value → Sem Value} {r r' : R2} (h : OpR X f r) (i : ∀ x y H Q, r' x y H Q → r x y H Q) : OpR X f r' := fun pins s σ H x y v u Q I rx ry q => h pins s σ H x y v u Q I rx ry (i x y H Q q)
theorem XV.bin {a b : Expr} {o : Operator} {f : α → β → Res γ} {ma : Res α} {mb : Res β} (op : OpOk X o f) (ha : XV X W ρ a ma) (hb : XV X W ρ b mb) : XV X W ρ (.BinOp a o b pos) (do
    let x ← ma
    let y ← mb
    f x y) := by
  refine PE.imp (pe_op op.run ha hb) fun σ H Q ⟨F0, H0, F, R, p⟩ => ?_
  rw [Res.map_bind] at p
  refine ⟨F0, H0, F, R, ?_⟩
  refine PostV.bindG (P := fun F H m => PostV X.K W F H m Q) p (fun c i p => p) (fun p => p) fun x v F1 H1 _ g1 r1 p1 => ?_
  refine ⟨F0, H0, F1, R.grow g1, ?_⟩
  rw [Res.map_bind] at p1
  refine PostV.bindG (P := fun F H m => PostV X.K W F H m Q) (PostV.grow g1 p1) (fun c i p => p) (fun p => p) fun y u F2 H2 _ g2 r2 p2 => ?_
  obtain ⟨z, e, q⟩ := post_op op.no (PostV.grow g2 p2)
  exact ⟨F2, x, y, z, g2.fh, r1.sub g2.f, r2, e, q⟩
theorem op_of_int {o : Operator} {C : Int → Int → Prop} {g : Int → Int → Int} {f : Int → Int → Res Int} (h : OpR X (binaryOp o) (rI C fun i j => .int (g i j))) (hf : ∀ i j z, f i j = .ok z → C i j ∧ z = g i j) (no : ∀ x y c i, f x y ≠ .exc c i) : OpOk X o f :=
  ⟨OpR.imp h fun vx vy H Q ⟨F, x, y, z, sub, r1, r2, e, q⟩ => by
    obtain ⟨c, rfl⟩ := hf x y z e
    exact ⟨x, y, r1.int_of, r2.int_of, c, q _ F H (.refl sub) (.int _)⟩, no⟩
theorem o_add : OpOk X .Add (fun i j : Int => Res.ok (i + j)) := op_of_int (C := fun _ _ => True) (OpR.imp op_add fun x y H Q ⟨i, j, a, b, _, q⟩ => ⟨i, j, a, b, q⟩) (fun i j z e => by cases e; exact ⟨trivial, rfl⟩) (fun _ _ _ _ e => by cases e)
theorem o_sub : OpOk X .Sub (fun i j : Int => Res.ok (i - j)) := op_of_int (C := fun _ _ => True) (OpR.imp op_sub fun x y H Q ⟨i, j, a, b, _, q⟩ => ⟨i, j, a, b, q⟩) (fun i j z e => by cases e; exact ⟨trivial, rfl⟩) (fun _ _ _ _ e => by cases e)
theorem o_mul : OpOk X .Mult mulI := op_of_int op_mul (fun i j z e => by
  unfold mulI at e
  split at e
  · cases e
    rename_i h
    exact ⟨h, rfl⟩
  · cases e) (fun x y c i e => by unfold mulI at e; split at e <;> cases e)
theorem o_fdiv : OpOk X .FloorDiv fdivI := op_of_int op_fdivN (fun i j z e => by
  unfold fdivI at e
  split at e
  · cases e
    rename_i h
    exact ⟨h, rfl⟩
  · cases e) (fun x y c i e => by unfold fdivI at e; split at e <;> cases e)
theorem o_mod : OpOk X .Mod modI := op_of_int op_modN (fun i j z e => by
  unfold modI at e
  split at e
  · cases e
    rename_i h
    exact ⟨h, rfl⟩
  · cases e) (fun x y c i e => by unfold modI at e; split at e <;> cases e)
theorem o_pow : OpOk X .Pow powI := op_of_int op_pow (fun i j z e => by
  unfold powI at e
  split at e
  · cases e
    rename_i h
    exact ⟨⟨h.1, h.2.1, by have := h.2.2; unfold big at this; omega⟩, rfl⟩
  · cases e) (fun x y c i e => by unfold powI at e; split at e <;> cases e)
/-- -a -/
theorem XV.neg {a : Expr} {ma : Res Int} (ha : XV X W ρ a ma) : XV X W ρ (.UnaryOp .USub a pos) (do
    let x ← ma
    .ok (-x)) := by
  refine PE.imp (pe_un un_neg ha) fun σ H Q ⟨F0, H0, F, R, p⟩ => ?_
  rw [Res.map_bind] at p
  refine ⟨F0, H0, F, R, ?_⟩
  refine PostV.bindG (P := fun F H m => PostV X.K W F H m Q) p (fun c i p => p) (fun p => p) fun x v F1 H1 _ g1 r1 p1 => ?_
  exact ⟨x, r1.int_of, p1 _ F1 H1 g1 (.int _)⟩

/-! ### comparisons -/
theorem RpH.int_of {K : PySem.W.Frag} {F H : Hp} {v : V} {i : Int} (r : RpH K F H v (.int i)) : v = .int i := by
  rcases r with r | ⟨a, _, c⟩
  · exact r.int_of
  · obtain ⟨_, ⟨_, _, _, _, e⟩ | ⟨_, _, _, _, e⟩ | ⟨_, _, _, _, e⟩⟩ := c <;> cases e
theorem RpH.lst_of {K : PySem.W.Frag} {F H : Hp} {v : V} {ds : List PyData} (s : Sub F H) (r : RpH K F H v (.list ds)) : ∃ a xs, v = .ref a ∧ H a = some (.lst xs) ∧ RpAll K F xs ds := by
  rcases r with r | ⟨a, e, c⟩
  · obtain ⟨a, xs, e, h1, h2⟩ := r.lst_of
    exact ⟨a, xs, e, s _ _ h1, h2⟩
  · obtain ⟨_, ⟨xs, _, h1, h2, q⟩ | ⟨_, _, _, _, q⟩ | ⟨_, _, _, _, q⟩⟩ := c <;> cases q
    exact ⟨a, xs, e, h1, h2⟩
theorem RpH.tup_of {K : PySem.W.Frag} {F H : Hp} {v : V} {ds : List PyData} (s : Sub F H) (r : RpH K F H v (.tuple ds)) : ∃ a xs, v = .ref a ∧ SqT K H a xs ∧ RpAll K F xs ds := by
  rcases r with r | ⟨a, e, c⟩
  · obtain ⟨a, xs, e, h1, h2⟩ := r.tup_of
    exact ⟨a, xs, e, sub_seqT s h1, h2⟩
  · obtain ⟨_, ⟨_, _, _, _, q⟩ | ⟨_, _, _, _, q⟩ | ⟨_, _, _, _, q⟩⟩ := c <;> cases q
theorem RpH.dp {K : PySem.W.Frag} {F H : Hp} {v : V} {d : PyData} (s : Sub F H) (r : RpH K F H v d) (l : d.canLay0 = true) : Dp K H v d := by
  rcases r with r | ⟨a, rfl, c⟩
  · exact r.dp s l
  · obtain ⟨_, ⟨xs, ds, h1, h2, rfl⟩ | ⟨_, _, _, _, rfl⟩ | ⟨_, _, _, _, rfl⟩⟩ := c
    · exact .lst (.inl (.inl h1)) (h2.dp s (by simpa [PyData.canLay0] using l))
    · simp [PyData.canLay0] at l
    · simp [PyData.canLay0] at l
def rdCmp (K : PySem.W.Frag) (f : α → β → Bool) : R2 := fun vx vy H Q => ∃ F x y, Sub F H ∧ RpH K F H vx (toD x) ∧ RpH K F H vy (toD y) ∧ Q (.bl (f x y)) H
abbrev CmpOk (X : Cx) (o : CmpOp) (f : α → β → Bool) : Prop := OpR X (compareOp o) (rdCmp X.K f)
theorem rd_cmp {a b : Expr} {f : α → β → Bool} {ma : Res α} {mb : Res β} {σ : St} {H : Hp} {Q : VK} (h : rdV X.K X.N.length W ρ ((do
    let x ← ma
    let y ← mb
    Res.ok (f x y)).map toD) σ H Q) : tOp (rdCmp X.K f) (rdW X.K X.N.length W ρ (ma.map toD)) (rdW X.K X.N.length W ρ (mb.map toD)) σ H Q := by
  obtain ⟨F0, H0, F, R, p⟩ := h
  rw [Res.map_bind] at p
  refine ⟨F0, H0, F, R, ?_⟩
  cases ma with
  | exc c i => exact p
  | stuck => exact p
  | ok x =>
    intro v F1 H1 g1 r1
    refine ⟨F0, H0, F1, R.grow g1, ?_⟩
    have p1 := PostV.grow g1 p
    cases mb with
    | exc c i => exact p1
    | stuck => exact p1
    | ok y =>
      intro u F2 H2 g2 r2
      exact ⟨F2, x, y, g2.fh, r1.grow g2, r2, p1 _ F2 H2 g2 (.bl _)⟩
theorem XV.cmp {a b : Expr} {o : CmpOp} {f : α → β → Bool} {ma : Res α} {mb : Res β} (op : CmpOk X o f) (ha : XW X W ρ a ma) (hb : XW X W ρ b mb) (hm : behindInMarks o b = false := by first | exact nomark _ | rfl) : XV X W ρ (.Compare a [o] [b] pos) (do
    let x ← ma
    let y ← mb
    .ok (f x y)) := PE.imp (pe_cmpR op ha hb hm) fun σ H Q h => rd_cmp (a := a) (b := b) h
/-- a < b < c -/
theorem XV.chain {a b c : Expr} {o o' : CmpOp} {f : α → β → Bool} {f' : β → γ → Bool} {ma : Res α} {mb : Res β} {mc : Res γ} (op : CmpOk X o f) (op' : CmpOk X o' f') (ha : XW X W ρ a ma) (hb : XW X W ρ b mb) (hc : XW X W ρ c mc)
    (hm : lastMarks [o, o'] [b, c] = false := by rfl) : XV X W ρ (.Compare a [o, o'] [b, c] pos) (do
    let x ← ma
    let y ← mb
    if f x y then do
      let z ← mc
      .ok (f' y z)
    else .ok false) := by
  refine PE.imp (pe_chain op op' ha hb hc hm) fun σ H Q ⟨F0, H0, F, R, p⟩ => ?_
  rw [Res.map_bind] at p
  refine ⟨F0, H0, F, R, ?_⟩
  cases ma with
  | exc c i => exact p
  | stuck => exact p
  | ok x =>
    intro v F1 H1 g1 r1
    refine ⟨F0, H0, F1, R.grow g1, ?_⟩
    have p1 := PostV.grow g1 p
    cases mb with
    | exc c i => exact p1
    | stuck => exact p1
    | ok y =>
      intro u F2 H2 g2 r2
      have p2 := PostV.grow g2 p1
      refine ⟨F2, x, y, g2.fh, r1.grow g2, r2, f x y, rfl, ?_⟩
      simp only [Res.ok_bind] at p2
      cases e : f x y with
      | false =>
        rw [e] at p2
        exact p2 _ F2 H2 (.refl g2.fh) (.bl _)
      | true =>
        rw [e] at p2
        simp only [if_true] at p2 ⊢
        refine ⟨F0, H0, F2, (R.grow g1).grow g2, ?_⟩
        cases mc with
        | exc c i => exact p2
        | stuck => exact p2
        | ok z =>
          intro w F3 H3 g3 r3
          exact ⟨F3, y, z, g3.fh, r2.grow g3, r3, p2 _ F3 H3 g3 (.bl _)⟩
theorem cmp_int {o : CmpOp} {g : Int → Int → Bool} (h : OpR X (compareOp o) (rI0 fun i j => .bl (g i j))) : CmpOk X o g := OpR.imp h fun vx vy H Q ⟨F, x, y, s, r1, r2, q⟩ => ⟨x, y, r1.int_of, r2.int_of, q⟩
theorem c_lt : CmpOk X .Lt (fun i j : Int => decide (i < j)) := cmp_int op_lt
theorem c_le : CmpOk X .LtE (fun i j : Int => decide (i ≤ j)) := cmp_int op_le
theorem c_gt : CmpOk X .Gt (fun i j : Int => decide (j < i)) := cmp_int op_gt
theorem c_ge : CmpOk X .GtE (fun i j : Int => decide (j ≤ i)) := cmp_int op_ge
theorem shaped_of [DecidableEq α] [PyEq α] (h : PyEq.dp α ≤ 60) (a : α) : SeqAt.shaped (toD a) = true := by
  unfold SeqAt.shaped
  rw [PyEq.lay, decide_eq_true (Nat.le_trans (PyEq.dep a) (Nat.le_trans h (by decide)))]; rfl
theorem c_eq {k : Nat} [DecidableEq α] [PyEq α] (hr : Room k X.A) (h : PyEq.dp α ≤ 60 := by decide) : CmpOk X .Eq (fun a b : α => decide (a = b)) :=
  OpR.imp (op_eqD hr.units) fun vx vy H Q ⟨F, x, y, s, r1, r2, q⟩ => ⟨_, _, r1.dp s (PyEq.lay x), r2.dp s (PyEq.lay y), shaped_of h x, shaped_of h y, by rw [PyEq.eqv]; exact q⟩
theorem c_ne {k : Nat} [DecidableEq α] [PyEq α] (hr : Room k X.A) (h : PyEq.dp α ≤ 60 := by decide) : CmpOk X .NotEq (fun a b : α => !decide (a = b)) :=
  OpR.imp (op_neD hr.units) fun vx vy H Q ⟨F, x, y, s, r1, r2, q⟩ => ⟨_, _, r1.dp s (PyEq.lay x), r2.dp s (PyEq.lay y), shaped_of h x, shaped_of h y, by rw [PyEq.eqv]; exact q⟩
theorem any_eqv [DecidableEq α] [PyEq α] (x : α) : ∀ xs : List α, (xs.map toD).any (fun z => PyData.eqv z (toD x)) = decide (x ∈ xs)
  | [] => by simp
  | y :: ys => by
    rw [List.map_cons, List.any_cons, PyEq.eqv, any_eqv x ys]
    by_cases h : y = x
    · subst h; simp
    · have h' : ¬ x = y := fun e => h e.symm
      simp [h, h']
theorem c_in {k : Nat} [DecidableEq α] [PyEq α] (hr : Room (k + 1) X.A) (h : PyEq.dp α ≤ 58 := by decide) : CmpOk X .In (fun (a : α) (xs : List α) => decide (a ∈ xs)) :=
  OpR.imp (op_inD (by have := hr.un; omega)) fun vx vy H Q ⟨F, x, y, s, r1, r2, q⟩ =>
    ⟨toD x, y.map toD, r1.dp s (PyEq.lay x), r2.dp s (PyEq.lay y), shaped_of (by omega) x, shaped_of (α := List α) (by show PyEq.dp α + 1 ≤ 60; omega) y, by rw [any_eqv]; exact q⟩
theorem c_notin {k : Nat} [DecidableEq α] [PyEq α] (hr : Room (k + 1) X.A) (h : PyEq.dp α ≤ 58 := by decide) : CmpOk X .NotIn (fun (a : α) (xs : List α) => !decide (a ∈ xs)) :=
  OpR.imp (op_notInD (by have := hr.un; omega)) fun vx vy H Q ⟨F, x, y, s, r1, r2, q⟩ =>
    ⟨toD x, y.map toD, r1.dp s (PyEq.lay x), r2.dp s (PyEq.lay y), shaped_of (by omega) x, shaped_of (α := List α) (by show PyEq.dp α + 1 ≤ 60; omega) y, by rw [any_eqv]; exact q⟩
/-- is None -/
theorem RpH.non_iff {K : PySem.W.Frag} {F H : Hp} {v : V} {o : Option α} [NN α] (r : RpH K F H v (toD o)) : v = .non ↔ o = none := by
  rcases r with r | ⟨a, rfl, c⟩
  · rw [r.non_iff]
    cases o with
    | none => simp [toD]
    | some x => simp only [reduceCtorEq, iff_false]; exact NN.nn x
  · cases o with
    | none => obtain ⟨_, ⟨_, _, _, _, e⟩ | ⟨_, _, _, _, e⟩ | ⟨_, _, _, _, e⟩⟩ := c <;> cases e
    | some x => simp
theorem XV.isN {a : Expr} {ma : Res (Option α)} [NN α] {j : Nat} {p2 : Pos} (ha : XW X W ρ a ma) : XV X W ρ (.Compare a [.Is] [.Constant .none j p2] pos) (do
    let x ← ma
    .ok (decide (x = none))) := by
  refine PE.imp (pe_cmp (pc_isN ha) rfl) fun σ H Q ⟨F0, H0, F, R, p⟩ => ⟨F0, H0, F, R, ?_⟩
  cases ma with
  | exc c i => exact p
  | stuck => exact p
  | ok x =>
    intro v F1 H1 g1 r1
    have e : decide (v = .non) = decide (x = none) := by rw [decide_eq_decide]; exact r1.non_iff
    rw [e]
    exact p _ F1 H1 g1 (.bl _)
theorem XV.notN {a : Expr} {ma : Res (Option α)} [NN α] {j : Nat} {p2 : Pos} (ha : XW X W ρ a ma) : XV X W ρ (.Compare a [.IsNot] [.Constant .none j p2] pos) (do
    let x ← ma
    .ok (!decide (x = none))) := by
  refine PE.imp (pe_cmp (pc_notN ha) rfl) fun σ H Q ⟨F0, H0, F, R, p⟩ => ⟨F0, H0, F, R, ?_⟩
  cases ma with
  | exc c i => exact p
  | stuck => exact p
  | ok x =>
    intro v F1 H1 g1 r1
    have e : decide (v = .non) = decide (x = none) := by rw [decide_eq_decide]; exact r1.non_iff
    rw [e]
    exact p _ F1 H1 g1 (.bl _)

/-! ### tests, and, or, not, a if t else b -/
theorem XT.val {e : Expr} {m : Res Bool} (h : XV X W ρ e m) (he : ∀ whole, isTrue e X.env whole = (do let v ← whole; standAt e.pos; holding [v] (truthy v)) := by intro _; rfl) : XT X W ρ e m := by
  refine PT.imp (pt_val h he) fun σ H Q ⟨F0, H0, F, R, p⟩ => ⟨F0, H0, F, R, ?_⟩
  cases m with
  | exc c i => exact p
  | stuck => exact p
  | ok x => exact fun v F1 H1 g1 r1 => ⟨x, r1.bl_of, p F1 H1 g1⟩
abbrev XW2 (X : Cx) (W : WX) (ρ : Rs) (e : Expr) (m : Res Bool) : Prop := PW X e (rdT X.K X.N.length W ρ m)
theorem XT.pw {e : Expr} {m : Res Bool} (h : XW2 X W ρ e m) : XT X W ρ e m := h.pt
theorem XT.and1 {a : Expr} {m : Res Bool} (h : XT X W ρ a m) : XW2 X W ρ (.BoolOp .And [a] pos) m := pw_and1 h
theorem XT.or1 {a : Expr} {m : Res Bool} (h : XT X W ρ a m) : XW2 X W ρ (.BoolOp .Or [a] pos) m := pw_or1 h
theorem XT.and {a b : Expr} {rest : List Expr} {ma mb : Res Bool} (ha : XT X W ρ a ma) (hb : XW2 X W ρ (.BoolOp .And (b :: rest) pos) mb) : XW2 X W ρ (.BoolOp .And (a :: b :: rest) pos) (do
    let x ← ma
    if x then mb else .ok false) := by
  refine PW.imp (pw_and ha hb) fun σ H Q ⟨F0, H0, F, R, p⟩ => ⟨F0, H0, F, R, ?_⟩
  cases ma with
  | exc c i => exact p
  | stuck => exact p
  | ok x =>
    intro F1 H1 g1
    have p1 := PostT.grow g1 p
    cases x with
    | true => exact ⟨F0, H0, F1, R.grow g1, p1⟩
    | false => exact p1 F1 H1 (.refl g1.fh)
theorem XT.or {a b : Expr} {rest : List Expr} {ma mb : Res Bool} (ha : XT X W ρ a ma) (hb : XW2 X W ρ (.BoolOp .Or (b :: rest) pos) mb) : XW2 X W ρ (.BoolOp .Or (a :: b :: rest) pos) (do
    let x ← ma
    if x then .ok true else mb) := by
  refine PW.imp (pw_or ha hb) fun σ H Q ⟨F0, H0, F, R, p⟩ => ⟨F0, H0, F, R, ?_⟩
  cases ma with
  | exc c i => exact p
  | stuck => exact p
  | ok x =>
    intro F1 H1 g1
    have p1 := PostT.grow g1 p
    cases x with
    | false => exact ⟨F0, H0, F1, R.grow g1, p1⟩
    | true => exact p1 F1 H1 (.refl g1.fh)
theorem XT.not {a : Expr} {ma : Res Bool} (ha : XT X W ρ a ma) : XT X W ρ (.UnaryOp .Not a pos) (do
    let x ← ma
    .ok (!x)) := by
  refine PT.imp (pt_not ha) fun σ H Q ⟨F0, H0, F, R, p⟩ => ⟨F0, H0, F, R, ?_⟩
  cases ma with
  | exc c i => exact p
  | stuck => exact p
  | ok x => exact fun F1 H1 g1 => p F1 H1 g1
theorem XV.one {o : BoolOp} {a : Expr} {m : Res Bool} (h : XV X W ρ a m) : XV X W ρ (.BoolOp o [a] pos) m := pe_one h
theorem XV.and {a b : Expr} {rest : List Expr} {ma mb : Res Bool} (ha : XV X W ρ a ma) (hb : XV X W ρ (.BoolOp .And (b :: rest) pos) mb) : XV X W ρ (.BoolOp .And (a :: b :: rest) pos) (do
    let x ← ma
    if x then mb else .ok false) := by
  refine PE.imp (pe_and ha hb) fun σ H Q ⟨F0, H0, F, R, p⟩ => ⟨F0, H0, F, R, ?_⟩
  cases ma with
  | exc c i => exact p
  | stuck => exact p
  | ok x =>
    intro v F1 H1 g1 r1
    have p1 := PostV.grow g1 p
    refine ⟨x, r1.bl_of, ?_⟩
    cases x with
    | true => exact ⟨F0, H0, F1, R.grow g1, p1⟩
    | false => exact p1 _ F1 H1 (.refl g1.fh) (.bl _)
theorem XV.or {a b : Expr} {rest : List Expr} {ma mb : Res Bool} (ha : XV X W ρ a ma) (hb : XV X W ρ (.BoolOp .Or (b :: rest) pos) mb) : XV X W ρ (.BoolOp .Or (a :: b :: rest) pos) (do
    let x ← ma
    if x then .ok true else mb) := by
  refine PE.imp (pe_or ha hb) fun σ H Q ⟨F0, H0, F, R, p⟩ => ⟨F0, H0, F, R, ?_⟩
  cases ma with
  | exc c i => exact p
  | stuck => exact p
  | ok x =>
    intro v F1 H1 g1 r1
    have p1 := PostV.grow g1 p
    refine ⟨x, r1.bl_of, ?_⟩
    cases x with
    | false => exact ⟨F0, H0, F1, R.grow g1, p1⟩
    | true => exact p1 _ F1 H1 (.refl g1.fh) (.bl _)
theorem XV.not {a : Expr} {ma : Res Bool} (ha : XV X W ρ a ma) : XV X W ρ (.UnaryOp .Not a pos) (do
    let x ← ma
    .ok (!x)) := by
  refine PE.imp (pe_not ha) fun σ H Q ⟨F0, H0, F, R, p⟩ => ⟨F0, H0, F, R, ?_⟩
  cases ma with
  | exc c i => exact p
  | stuck => exact p
  | ok x => exact fun v F1 H1 g1 r1 => ⟨x, r1.bl_of, p _ F1 H1 g1 (.bl _)⟩
theorem XV.ite {t a b : Expr} {mt : Res Bool} {ma mb : Res α} (ht : XT X W ρ t mt) (ha : XV X W ρ a ma) (hb : XV X W ρ b mb) : XV X W ρ (.IfExp t a b pos) (do
    let x ← mt
    if x then ma else mb) := by
  refine PE.imp (pe_ifExp ht ha hb) fun σ H Q ⟨F0, H0, F, R, p⟩ => ⟨F0, H0, F, R, ?_⟩
  cases mt with
  | exc c i => exact p
  | stuck => exact p
  | ok x =>
    intro F1 H1 g1
    have p1 := PostV.grow g1 p
    cases x with
    | true => exact ⟨F0, H0, F1, R.grow g1, p1⟩
    | false => exact ⟨F0, H0, F1, R.grow g1, p1⟩
end
end Vs
end
section
set_option Elab.async false
set_option linter.all false
set_option maxRecDepth 100000
set_option maxHeartbeats 1000000
/-! Vs3: displays, items, slices, built-ins. -/
namespace Vs
open Enc (toD)
open PySem PySem.Spec PyProof.Rows L2

theorem lim_line : lim = sizeLine := by rw [sizeLine_eq]; rfl
section
variable {X : Cx} {W : WX} {ρ : Rs} {pos : Pos} {α β γ δ ε ζ : Type} [Enc α] [Enc β] [Enc γ] [Enc δ] [Enc ε] [Enc ζ]
theorem XF.eq {e : Expr} {m m' : Res α} (h : XF X W ρ e m) (q : m' = m) : XF X W ρ e m' := by rw [q]; exact h
theorem XW.eq {e : Expr} {m m' : Res α} (h : XW X W ρ e m) (q : m' = m) : XW X W ρ e m' := by rw [q]; exact h
theorem XT.eq {e : Expr} {m m' : Res Bool} (h : XT X W ρ e m) (q : m' = m) : XT X W ρ e m' := by rw [q]; exact h
theorem XA.eq {e : List Expr} {m m' : Res (List PyData)} (h : XA X W ρ e m) (q : m' = m) : XA X W ρ e m' := by rw [q]; exact h

/-! ### a new list or dict, read or frozen -/
theorem XF.w {e : Expr} {m : Res α} (h : XF X W ρ e m) : XW X W ρ e m := PE.imp h fun σ H Q ⟨F0, H0, F, R, p⟩ => ⟨F0, H0, F, R, by
  cases m with
  | ok d => exact fun a F' H' g _ c => p _ F' H' g (.inr ⟨a, rfl, c⟩)
  | exc c i => exact p
  | stuck => exact p⟩
theorem cell_freezeL {K : PySem.W.Frag} {F H F' H' : Hp} {a : Addr} {xs : List V} (g : Grow F H F' H') (n : H a = none) (e : H' a = some (.lst xs)) (z : F' a = none) : Grow F H (upd F' a (.lst xs)) H' :=
  ⟨fun b o q => sub_upd z b o (g.f b o q), g.h, fun b o q => by
    by_cases hb : b = a
    · subst hb; rw [upd_same] at q; cases q; exact e
    · rw [upd_ne hb] at q; exact g.fh b o q, fun b hb => by rw [upd_ne (fun q => hb.1 (by rw [q, n]))]; exact g.fn b hb⟩
theorem cell_freezeD {F H F' H' : Hp} {a : Addr} {u v : HO} (g : Grow F H F' H') (n : H a = none) (z : F' a = none) : Grow F H (upd F' a v) (upd H' a v) :=
  ⟨fun b o q => sub_upd z b o (g.f b o q), fun b o q => by rw [upd_ne (ne_of_none q n)]; exact g.h b o q, sub_upd2 g.fh, fun b hb => by rw [upd_ne (fun q => hb.1 (by rw [q, n]))]; exact g.fn b hb⟩
theorem XF.v {e : Expr} {m : Res α} (h : XF X W ρ e m) : XV X W ρ e m := by
  refine ⟨fun pins s σ H Q I ⟨F0, H0, F, R, p⟩ => ?_⟩
  cases m with
  | exc c i => exact h.run pins s σ H Q I ⟨F0, H0, F, R, p⟩
  | stuck => exact p.elim
  | ok d =>
    refine thn (h.run pins s σ H (fun v H1 => ∃ a F1, v = .ref a ∧ Grow F H F1 H1 ∧ H a = none ∧ Cell X.K F1 H1 a (toD d)) I ⟨F0, H0, F, R, fun a F' H' g n c => ⟨a, F', rfl, g, n, c⟩⟩) fun u s1 ⟨v, H1, I1, rv, a, F1, ev, g, n, c⟩ => ?_
    subst ev
    obtain ⟨z, ⟨xs, ds, e1, r, e2⟩ | ⟨kvs, ds, e1, r, e2⟩ | ⟨kvs, ds, e1, r, e2⟩⟩ := c
    · refine ⟨.ref a, H1, I1, rv, p (.ref a) _ H1 (cell_freezeL (K := X.K) g n e1 z) ?_⟩
      rw [e2]
      exact .lst upd_same (r.sub (sub_upd z))
    · obtain ⟨od, I2⟩ := I1.lock e1 trivial
      refine ⟨.ref a, _, I2, rv, p (.ref a) _ _ (cell_freezeD (u := .frz od (.dK kvs)) g n z) ?_⟩
      rw [e2]
      exact .dk upd_same (r.sub (sub_upd z))
    · obtain ⟨od, I2⟩ := I1.lock e1 trivial
      refine ⟨.ref a, _, I2, rv, p (.ref a) _ _ (cell_freezeD (u := .frz od (.dT kvs)) g n z) ?_⟩
      rw [e2]
      exact .dt upd_same (r.sub (sub_upd z))

/-! ### lists of arguments -/
theorem XA.nil : XA X W ρ [] (.ok []) := PA.imp pa_nil fun σ H Q ⟨F0, H0, F, R, p⟩ => p [] F H (.refl R.fh) .nil
theorem XA.cons {e : Expr} {es : List Expr} {m : Res α} {k : Res (List PyData)} (he : XV X W ρ e m) (hr : XA X W ρ es k) (hs : starEach (e :: es) X.env = (false, eval e X.env) :: starEach es X.env := by rfl) : XA X W ρ (e :: es) (do
    let x ← m
    let xs ← k
    .ok (toD x :: xs)) := by
  refine PA.imp (pa_cons he hr hs) fun σ H Q ⟨F0, H0, F, R, p⟩ => ⟨F0, H0, F, R, ?_⟩
  cases m with
  | exc c i => exact p
  | stuck => exact p
  | ok x =>
    intro v F1 H1 g1 r1
    refine ⟨F0, H0, F1, R.grow g1, ?_⟩
    have p1 := PostA.grow g1 p
    cases k with
    | exc c i => exact p1
    | stuck => exact p1
    | ok ds => exact fun vs F2 H2 g2 r2 => p1 _ F2 H2 g2 (.cons (r1.sub g2.f) r2)
theorem XA.star {e : Expr} {es : List Expr} {p1 : Pos} {m : Res (List α)} {k : Res (List PyData)} (he : XW X W ρ e m) (hr : XA X W ρ es k) (hs : starEach (.Starred e p1 :: es) X.env = (true, eval e X.env) :: starEach es X.env := by rfl) : XA X W ρ (.Starred e p1 :: es) (do
    let x ← m
    let xs ← k
    .ok (x.map toD ++ xs)) := by
  refine PA.imp (StX.pa_star he hr hs) fun σ H Q ⟨F0, H0, F, R, p⟩ => ⟨F0, H0, F, R, ?_⟩
  cases m with
  | exc c i => exact p
  | stuck => exact p
  | ok x =>
    intro v F1 H1 g1 r1
    obtain ⟨a, xs, rfl, h1, h2⟩ := r1.lst_of g1.fh
    refine ⟨a, xs, rfl, .inr (.inl (.inl h1)), F0, H0, F1, R.grow g1, ?_⟩
    have p1 := PostA.grow g1 p
    cases k with
    | exc c i => exact p1
    | stuck => exact p1
    | ok ds => exact fun vs F2 H2 g2 r2 => p1 _ F2 H2 g2 ((h2.sub g2.f).append r2)
/-- items of one kind -/
abbrev XL (X : Cx) (W : WX) (ρ : Rs) {α : Type} [Enc α] (es : List Expr) (m : Res (List α)) : Prop := XA X W ρ es (m.map fun xs => xs.map toD)
theorem XL.nil : XL X W ρ [] (.ok ([] : List α)) := XA.nil
theorem XL.cons {e : Expr} {es : List Expr} {m : Res α} {k : Res (List α)} (he : XV X W ρ e m) (hr : XL X W ρ es k) (hs : starEach (e :: es) X.env = (false, eval e X.env) :: starEach es X.env := by rfl) : XL X W ρ (e :: es) (do
    let x ← m
    let xs ← k
    .ok (x :: xs)) := (XA.cons he hr hs).eq (by cases m <;> cases k <;> rfl)
theorem XL.star {e : Expr} {es : List Expr} {p1 : Pos} {m : Res (List α)} {k : Res (List α)} (he : XW X W ρ e m) (hr : XL X W ρ es k) (hs : starEach (.Starred e p1 :: es) X.env = (true, eval e X.env) :: starEach es X.env := by rfl) : XL X W ρ (.Starred e p1 :: es) (do
    let x ← m
    let xs ← k
    .ok (x ++ xs)) := (XA.star he hr hs).eq (by cases m <;> cases k <;> simp [Res.map])
theorem mkL_ok {xs : List α} {ys : List α} (h : mkL xs = .ok ys) : ys = xs ∧ xs.length ≤ sizeLine := by
  unfold mkL at h
  split at h
  · cases h
    rename_i h
    exact ⟨rfl, by rw [← lim_line]; exact h⟩
  · cases h
/-- a list display -/
theorem XF.lstG {es : List Expr} {m : Res (List α)} (h : XL X W ρ es m) : XF X W ρ (.List es pos) (m >>= mkL) := by
  refine PE.imp (pe_lst h) fun σ H Q ⟨F0, H0, F, R, p⟩ => ⟨F0, H0, F, R, ?_⟩
  cases m with
  | exc c i => exact p
  | stuck => exact p
  | ok xs =>
    intro vs F1 H1 g1 r1
    have p1 : PostF X.K W F H ((mkL xs).map toD) Q := p
    unfold mkL at p1
    split at p1
    · rename_i hl
      have hlen : vs.length ≤ sizeLine := by rw [r1.length, List.length_map, ← lim_line]; exact hl
      refine ⟨hlen, fun q nq => p1 q F1 _ (g1.trans (.own g1.fh nq)) (sub_free g1.h nq) ⟨sub_free g1.fh nq, .inl ⟨vs, _, upd_same, r1, rfl⟩⟩⟩
    · exact p1.elim
theorem XF.lst {es : List Expr} {m : Res (List α)} (h : XL X W ρ es m) (hl : ∀ xs, m = .ok xs → xs.length ≤ 1000) : XF X W ρ (.List es pos) m := (XF.lstG h).eq (by
  cases m with
  | exc c i => rfl
  | stuck => rfl
  | ok xs =>
    show Res.ok xs = mkL xs
    unfold mkL
    rw [if_pos (show xs.length ≤ lim from Nat.le_trans (hl xs rfl) (by decide))])
theorem XF.lst0 : XF X W ρ (.List [] pos) (.ok ([] : List α)) := XF.lst XL.nil (fun xs e => by cases e; exact Nat.zero_le _)
theorem XF.lst1 {a : Expr} {ma : Res α} (ha : XV X W ρ a ma) (hs : starEach [a] X.env = [(false, eval a X.env)] := by rfl) : XF X W ρ (.List [a] pos) (do
    let x ← ma
    .ok [x]) := XF.lst (XL.cons ha XL.nil hs) (fun xs e => by cases ma <;> cases e; simp)
theorem XF.lst2 {a b : Expr} {ma mb : Res α} (ha : XV X W ρ a ma) (hb : XV X W ρ b mb) (hs : starEach [a, b] X.env = [(false, eval a X.env), (false, eval b X.env)] := by rfl) (hs2 : starEach [b] X.env = [(false, eval b X.env)] := by rfl) : XF X W ρ (.List [a, b] pos) (do
    let x ← ma
    let y ← mb
    .ok [x, y]) := (XF.lst (XL.cons ha (XL.cons hb XL.nil hs2) (by rw [hs, hs2])) (fun xs e => by cases ma <;> cases mb <;> cases e; simp)).eq (by cases ma <;> cases mb <;> rfl)
theorem XF.lst3 {a b c : Expr} {ma mb mc : Res α} (ha : XV X W ρ a ma) (hb : XV X W ρ b mb) (hc : XV X W ρ c mc) (hs : starEach [a, b, c] X.env = (false, eval a X.env) :: starEach [b, c] X.env := by rfl)
    (hs2 : starEach [b, c] X.env = (false, eval b X.env) :: starEach [c] X.env := by rfl) (hs3 : starEach [c] X.env = [(false, eval c X.env)] := by rfl) : XF X W ρ (.List [a, b, c] pos) (do
    let x ← ma
    let y ← mb
    let z ← mc
    .ok [x, y, z]) := (XF.lst (XL.cons ha (XL.cons hb (XL.cons hc XL.nil hs3) hs2) hs) (fun xs e => by cases ma <;> cases mb <;> cases mc <;> cases e; simp)).eq (by cases ma <;> cases mb <;> cases mc <;> rfl)
/-- [*a, b] -/
theorem XF.lstS {a b : Expr} {p1 : Pos} {ma : Res (List α)} {mb : Res α} (ha : XW X W ρ a ma) (hb : XV X W ρ b mb) (hs : starEach (.Starred a p1 :: [b]) X.env = (true, eval a X.env) :: starEach [b] X.env := by rfl) (hs2 : starEach [b] X.env = [(false, eval b X.env)] := by rfl) : XF X W ρ (.List [.Starred a p1, b] pos) (do
    let x ← ma
    let y ← mb
    pushL x y) := (XF.lstG (XL.star ha (XL.cons hb XL.nil hs2) hs)).eq (by cases ma <;> cases mb <;> rfl)
/-- tuples -/
theorem XV.tupG {es : List Expr} {k : Nat} {m : Res (List PyData)} (h : XA X W ρ es m) (hl : ∀ xs, m = .ok xs → xs.length ≤ 1000) : PE X (.Tuple es k pos) (rdV X.K X.N.length W ρ (m >>= fun xs => .ok (.tuple xs))) := by
  refine PE.imp (pe_tup h) fun σ H Q ⟨F0, H0, F, R, p⟩ => ⟨F0, H0, F, R, ?_⟩
  cases m with
  | exc c i => exact p
  | stuck => exact p
  | ok xs =>
    intro vs F1 H1 g1 r1
    have hlen : vs.length ≤ sizeLine := by rw [r1.length]; exact Nat.le_trans (hl xs rfl) (by decide)
    exact ⟨hlen, fun q nq => p _ _ _ (g1.trans (.new g1.fh nq)) (.tup upd_same (r1.sub (sub_upd (sub_free g1.fh nq))))⟩
theorem XV.tup2 {a b : Expr} {k : Nat} {ma : Res α} {mb : Res β} (ha : XV X W ρ a ma) (hb : XV X W ρ b mb) (hs : starEach [a, b] X.env = (false, eval a X.env) :: starEach [b] X.env := by rfl) (hs2 : starEach [b] X.env = [(false, eval b X.env)] := by rfl) : XV X W ρ (.Tuple [a, b] k pos) (do
    let x ← ma
    let y ← mb
    .ok (x, y)) := by
  have h := XV.tupG (pos := pos) (k := k) (XA.cons ha (XA.cons hb XA.nil hs2) hs) (fun xs e => by cases ma <;> cases mb <;> cases e; simp)
  have q : ((do let x ← ma; let y ← mb; .ok (x, y)) : Res (α × β)).map toD = ((do let x ← ma; let xs ← (do let y ← mb; let ys ← .ok []; .ok (toD y :: ys)); .ok (toD x :: xs)) >>= fun xs => .ok (PyData.tuple xs)) := by cases ma <;> cases mb <;> rfl
  show PE X _ (rdV X.K X.N.length W ρ (((do let x ← ma; let y ← mb; .ok (x, y)) : Res (α × β)).map toD))
  rw [q]; exact h
theorem XV.tup3 {a b c : Expr} {k : Nat} {ma : Res α} {mb : Res β} {mc : Res γ} (ha : XV X W ρ a ma) (hb : XV X W ρ b mb) (hc : XV X W ρ c mc) (hs : starEach [a, b, c] X.env = (false, eval a X.env) :: starEach [b, c] X.env := by rfl)
    (hs2 : starEach [b, c] X.env = (false, eval b X.env) :: starEach [c] X.env := by rfl) (hs3 : starEach [c] X.env = [(false, eval c X.env)] := by rfl) : XV X W ρ (.Tuple [a, b, c] k pos) (do
    let x ← ma
    let y ← mb
    let z ← mc
    .ok (T3.mk x y z)) := by
  have h := XV.tupG (pos := pos) (k := k) (XA.cons ha (XA.cons hb (XA.cons hc XA.nil hs3) hs2) hs) (fun xs e => by cases ma <;> cases mb <;> cases mc <;> cases e; simp)
  have q : ((do let x ← ma; let y ← mb; let z ← mc; .ok (T3.mk x y z)) : Res (T3 α β γ)).map toD = ((do let x ← ma; let xs ← (do let y ← mb; let ys ← (do let z ← mc; let zs ← .ok []; .ok (toD z :: zs)); .ok (toD y :: ys)); .ok (toD x :: xs)) >>= fun xs => .ok (PyData.tuple xs)) := by cases ma <;> cases mb <;> cases mc <;> rfl
  show PE X _ (rdV X.K X.N.length W ρ (((do let x ← ma; let y ← mb; let z ← mc; .ok (T3.mk x y z)) : Res (T3 α β γ)).map toD))
  rw [q]; exact h
theorem XV.tup4 {a b c d : Expr} {k : Nat} {ma : Res α} {mb : Res β} {mc : Res γ} {md : Res δ} (ha : XV X W ρ a ma) (hb : XV X W ρ b mb) (hc : XV X W ρ c mc) (hd : XV X W ρ d md) (hs : starEach [a, b, c, d] X.env = (false, eval a X.env) :: starEach [b, c, d] X.env := by rfl)
    (hs2 : starEach [b, c, d] X.env = (false, eval b X.env) :: starEach [c, d] X.env := by rfl) (hs3 : starEach [c, d] X.env = (false, eval c X.env) :: starEach [d] X.env := by rfl) (hs4 : starEach [d] X.env = [(false, eval d X.env)] := by rfl) : XV X W ρ (.Tuple [a, b, c, d] k pos) (do
    let x ← ma
    let y ← mb
    let z ← mc
    let w ← md
    .ok (T4.mk x y z w)) := by
  have h := XV.tupG (pos := pos) (k := k) (XA.cons ha (XA.cons hb (XA.cons hc (XA.cons hd XA.nil hs4) hs3) hs2) hs) (fun xs e => by cases ma <;> cases mb <;> cases mc <;> cases md <;> cases e; simp)
  have q : ((do let x ← ma; let y ← mb; let z ← mc; let w ← md; .ok (T4.mk x y z w)) : Res (T4 α β γ δ)).map toD = ((do let x ← ma; let xs ← (do let y ← mb; let ys ← (do let z ← mc; let zs ← (do let w ← md; let ws ← .ok []; .ok (toD w :: ws)); .ok (toD z :: zs)); .ok (toD y :: ys)); .ok (toD x :: xs)) >>= fun xs => .ok (PyData.tuple xs)) := by cases ma <;> cases mb <;> cases mc <;> cases md <;> rfl
  show PE X _ (rdV X.K X.N.length W ρ (((do let x ← ma; let y ← mb; let z ← mc; let w ← md; .ok (T4.mk x y z w)) : Res (T4 α β γ δ)).map toD))
  rw [q]; exact h

/-! ### items -/
theorem idx_ix {n : Nat} {i : Int} : idx n i = ixN n i := rfl
theorem getL_ok {xs : List α} {i : Int} {v : α} (h : getL xs i = .ok v) : ∃ j, idx xs.length i = some j ∧ xs[j]? = some v := by
  unfold getL at h
  cases e : idx xs.length i with
  | none => rw [e] at h; cases h
  | some j =>
    rw [e] at h
    cases e2 : xs[j]? with
    | none => simp only [Option.bind_some, e2] at h; cases h
    | some w => simp only [Option.bind_some, e2] at h; cases h; exact ⟨j, rfl, e2⟩
theorem at_of {K : PySem.W.Frag} {F : Hp} {vs : List V} {xs : List α} (r : RpAll K F vs (xs.map toD)) {i : Int} {x : α} (h : getL xs i = .ok x) : ∃ v, atI vs i = some v ∧ Rp K F v (toD x) := by
  obtain ⟨j, h1, h2⟩ := getL_ok h
  have e : (xs.map toD)[j]? = some (toD x) := by rw [List.getElem?_map, h2]; rfl
  obtain ⟨v, h3, h4⟩ := r.get e
  refine ⟨v, ?_, h4⟩
  unfold atI
  rw [r.length, List.length_map, show ixN xs.length i = some j from h1]
  exact h3
theorem getL_no {xs : List α} {i : Int} {c : Str} {k : Int} : getL xs i ≠ .exc c k := by
  unfold getL
  intro h
  split at h <;> cases h
/-- xs[i] -/
theorem XV.idx {o i : Expr} {mo : Res (List α)} {mi : Res Int} (ho : XW X W ρ o mo) (hi : XV X W ρ i mi) (hs : PlainIx i := by exact fun _ _ => rfl) : XV X W ρ (.Subscript o i pos) (do
    let xs ← mo
    let k ← mi
    getL xs k) := by
  refine PE.imp (pe_ix ix_list ho hi hs) fun σ H Q ⟨F0, H0, F, R, p⟩ => ⟨F0, H0, F, R, ?_⟩
  cases mo with
  | exc c i => exact p
  | stuck => exact p
  | ok xs =>
    intro v F1 H1 g1 r1
    refine ⟨F0, H0, F1, R.grow g1, ?_⟩
    have p1 := PostV.grow g1 p
    cases mi with
    | exc c i => exact p1
    | stuck => exact p1
    | ok k =>
      intro u F2 H2 g2 r2
      have p2 : PostV X.K W F2 H2 ((getL xs k).map toD) Q := PostV.grow g2 p1
      obtain ⟨a, vs, rfl, h1, h2⟩ := (r1.grow g2).lst_of g2.fh
      cases e : getL xs k with
      | exc c i => exact absurd e getL_no
      | stuck => rw [e] at p2; exact p2.elim
      | ok x =>
        rw [e] at p2
        obtain ⟨w, h3, h4⟩ := at_of h2 e
        exact ⟨a, vs, k, w, rfl, r2.int_of, .inl (.inl h1), h3, p2 w F2 H2 (.refl g2.fh) h4⟩
/-- t[i], t a tuple of one kind -/
theorem XV.idxT {o i : Expr} {mo : Res (Tup α)} {mi : Res Int} (ho : XW X W ρ o mo) (hi : XV X W ρ i mi) (hs : PlainIx i := by exact fun _ _ => rfl) : XV X W ρ (.Subscript o i pos) (do
    let xs ← mo
    let k ← mi
    getL xs.l k) := by
  refine PE.imp (pe_ix ix_tup ho hi hs) fun σ H Q ⟨F0, H0, F, R, p⟩ => ⟨F0, H0, F, R, ?_⟩
  cases mo with
  | exc c i => exact p
  | stuck => exact p
  | ok xs =>
    intro v F1 H1 g1 r1
    refine ⟨F0, H0, F1, R.grow g1, ?_⟩
    have p1 := PostV.grow g1 p
    cases mi with
    | exc c i => exact p1
    | stuck => exact p1
    | ok k =>
      intro u F2 H2 g2 r2
      have p2 : PostV X.K W F2 H2 ((getL xs.l k).map toD) Q := PostV.grow g2 p1
      obtain ⟨a, vs, rfl, h1, h2⟩ := (r1.grow g2).tup_of g2.fh
      cases e : getL xs.l k with
      | exc c i => exact absurd e getL_no
      | stuck => rw [e] at p2; exact p2.elim
      | ok x =>
        rw [e] at p2
        obtain ⟨w, h3, h4⟩ := at_of h2 e
        exact ⟨a, vs, k, w, rfl, r2.int_of, h1, h3, p2 w F2 H2 (.refl g2.fh) h4⟩
/-- p[k], k written, p a tuple of several kinds: f its k-th -/
theorem XV.item {o : Expr} {j k : Nat} {p1 : Pos} {mo : Res α} (f : α → β) (hf : ∀ x : α, ∃ ds, toD x = .tuple ds ∧ ds[k]? = some (toD (f x))) (ho : XW X W ρ o mo) : XV X W ρ (.Subscript o (.Constant (.int (k : Nat)) j p1) pos) (do
    let x ← mo
    .ok (f x)) := by
  refine PE.imp (pe_ix ix_tup ho (XV.int (X := X) (W := W) (ρ := ρ)) (fun _ _ => rfl)) fun σ H Q ⟨F0, H0, F, R, p⟩ => ⟨F0, H0, F, R, ?_⟩
  cases mo with
  | exc c i => exact p
  | stuck => exact p
  | ok x =>
    intro v F1 H1 g1 r1
    refine ⟨F0, H0, F1, R.grow g1, fun u F2 H2 g2 r2 => ?_⟩
    obtain ⟨ds, e, e2⟩ := hf x
    rw [e] at r1
    obtain ⟨a, vs, rfl, h1, h2⟩ := (r1.grow g2).tup_of g2.fh
    obtain ⟨w, h3, h4⟩ := h2.get e2
    exact ⟨a, vs, k, w, rfl, r2.int_of, h1, atI_nat h3, p w F2 H2 (g1.trans g2) h4⟩

/-! ### slices -/
theorem bnd_eq (n d : Nat) (o : Option Int) : bnd n d o = HT.sIx n d o := by
  cases o with
  | none => rfl
  | some v =>
    show (if v < 0 then (max (v + (n : Int)) 0).toNat else (min v (n : Int)).toNat) = (if v < 0 then (v + (n : Int)).toNat else min v.toNat n)
    split <;> omega
abbrev XO (X : Cx) (W : WX) (ρ : Rs) (e : Option Expr) (m : Res (Option Int)) : Prop := PO X e (fun σ H Q => ∃ F0 H0 F, Rho X.K X.N.length F0 H0 F H σ ρ ∧ (match m with
  | .ok o => ∀ F' H', Grow F H F' H' → Q o H'
  | .exc c i => ∀ dx F' H' σ', Grow F H F' H' → XdAt H' dx i → H dx = none → W (cv X.K c) (some dx) σ' H'
  | .stuck => False))
theorem XO.none : XO X W ρ none (.ok none) := ⟨fun pins s σ H Q I ⟨F0, H0, F, R, p⟩ => po_none.run pins s σ H Q I (p F H (.refl R.fh))⟩
theorem XO.some {e : Expr} {m : Res Int} (h : XV X W ρ e m) : XO X W ρ (some e) (do
    let i ← m
    .ok (some i)) := ⟨fun pins s σ H Q I ⟨F0, H0, F, R, p⟩ => (po_some h).run pins s σ H Q I ⟨F0, H0, F, R, by
  cases m with
  | exc c i => exact p
  | stuck => exact p
  | ok i => exact fun v F' H' g r => ⟨i, r.int_of, p F' H' g⟩⟩⟩
theorem cut_map {K : PySem.W.Frag} {F : Hp} {vs : List V} {xs : List α} (r : RpAll K F vs (xs.map toD)) (lo hi : Option Int) : RpAll K F (cutV vs lo hi) ((cutL xs lo hi).map toD) := by
  unfold cutV cutL
  rw [r.length, List.length_map, bnd_eq, bnd_eq, List.map_take, List.map_drop]
  exact (r.drop _).take _
theorem XF.slice {o : Expr} {lo hi : Option Expr} {p2 : Pos} {mo : Res (List α)} {ml mh : Res (Option Int)} (ho : XW X W ρ o mo) (hl : XO X W ρ lo ml) (hh : XO X W ρ hi mh) : XF X W ρ (.Subscript o (.Slice lo hi none p2) pos) (do
    let xs ← mo
    let l ← ml
    let h ← mh
    .ok (cutL xs l h)) := by
  refine PE.imp (pe_slice sl_list ho hl hh) fun σ H Q ⟨F0, H0, F, R, p⟩ => ⟨F0, H0, F, R, ?_⟩
  cases mo with
  | exc c i => exact p
  | stuck => exact p
  | ok xs =>
    intro v F1 H1 g1 r1
    refine ⟨F0, H0, F1, R.grow g1, ?_⟩
    have p1 := PostF.grow g1 p
    cases ml with
    | exc c i => exact p1
    | stuck => exact p1
    | ok l =>
      intro F2 H2 g2
      refine ⟨F0, H0, F2, (R.grow g1).grow g2, ?_⟩
      have p2 := PostF.grow g2 p1
      cases mh with
      | exc c i => exact p2
      | stuck => exact p2
      | ok h =>
        intro F3 H3 g3
        obtain ⟨a, vs, rfl, h1, h2⟩ := ((r1.grow g2).grow g3).lst_of g3.fh
        refine ⟨a, vs, rfl, .inl (.inl h1), fun q nq => p2 q F3 _ (g3.trans (.own g3.fh nq)) (sub_free g3.h nq) ⟨sub_free g3.fh nq, .inl ⟨_, _, upd_same, cut_map h2 l h, rfl⟩⟩⟩
theorem rp_reverse {K : PySem.W.Frag} {F : Hp} : ∀ {vs : List V} {ds : List PyData}, RpAll K F vs ds → RpAll K F vs.reverse ds.reverse
  | _, _, .nil => .nil
  | _, _, .cons a t => by
    rw [List.reverse_cons, List.reverse_cons]
    exact (rp_reverse t).append (.cons a .nil)
/-- xs[::-1] -/
theorem XF.rev {o : Expr} {k : Nat} {p1 p2 p3 : Pos} {mo : Res (List α)} (ho : XW X W ρ o mo) : XF X W ρ (.Subscript o (.Slice none none (some (.UnaryOp .USub (.Constant (.int 1) k p1) p2)) p3) pos) (do
    let xs ← mo
    .ok xs.reverse) := by
  refine PE.imp (pe_revL ho) fun σ H Q ⟨F0, H0, F, R, p⟩ => ⟨F0, H0, F, R, ?_⟩
  cases mo with
  | exc c i => exact p
  | stuck => exact p
  | ok xs =>
    intro v F1 H1 g1 r1
    obtain ⟨a, vs, rfl, h1, h2⟩ := r1.lst_of g1.fh
    refine ⟨a, vs, rfl, .inl (.inl h1), fun q nq => p q F1 _ (g1.trans (.own g1.fh nq)) (sub_free g1.h nq) ⟨sub_free g1.fh nq, .inl ⟨_, _, upd_same, rp_reverse h2, ?_⟩⟩⟩
    show toD xs.reverse = .list _
    rw [← List.map_reverse]; rfl

/-! ### xs + ys, xs * k -/
theorem bin_w {a b : Expr} {o : Operator} {r : R2} {ma : Res α} {mb : Res β} {k : α → β → Res γ} (op : OpR X (binaryOp o) r) (ha : XW X W ρ a ma) (hb : XW X W ρ b mb)
    (go : ∀ F H x y v u Q, Sub F H → RpH X.K F H v (toD x) → RpH X.K F H u (toD y) → PostF X.K W F H ((k x y).map toD) Q → r v u H Q) : XF X W ρ (.BinOp a o b pos) (do
    let x ← ma
    let y ← mb
    k x y) := by
  refine PE.imp (pe_op op ha hb) fun σ H Q ⟨F0, H0, F, R, p⟩ => ⟨F0, H0, F, R, ?_⟩
  cases ma with
  | exc c i => exact p
  | stuck => exact p
  | ok x =>
    intro v F1 H1 g1 r1
    refine ⟨F0, H0, F1, R.grow g1, ?_⟩
    have p1 := PostF.grow g1 p
    cases mb with
    | exc c i => exact p1
    | stuck => exact p1
    | ok y => exact fun u F2 H2 g2 r2 => go F2 H2 x y v u Q g2.fh (r1.grow g2) r2 (PostF.grow g2 p1)
theorem XF.cat {a b : Expr} {ma mb : Res (List α)} (ha : XW X W ρ a ma) (hb : XW X W ρ b mb) : XF X W ρ (.BinOp a .Add b pos) (do
    let x ← ma
    let y ← mb
    catL x y) := bin_w op_cat ha hb fun F H x y v u Q s r1 r2 p => by
  obtain ⟨a, vs, rfl, h1, h2⟩ := r1.lst_of s
  obtain ⟨b, ws, rfl, h3, h4⟩ := r2.lst_of s
  unfold catL mkL at p
  split at p
  · rename_i hl
    refine ⟨a, b, vs, ws, rfl, rfl, h1, h3, ?_, fun q nq => p q F _ (.own s nq) nq ⟨sub_free s nq, .inl ⟨_, _, upd_same, h2.append h4, ?_⟩⟩⟩
    · rw [h2.length, h4.length, List.length_map, List.length_map, ← lim_line, ← List.length_append]; exact hl
    · show toD (x ++ y) = .list _
      rw [← List.map_append]; rfl
  · exact p.elim
theorem map_rep (xs : List α) (k : Nat) : (List.replicate k (xs.map toD)).flatten = ((List.replicate k xs).flatten).map toD := by
  rw [List.map_flatten, List.map_replicate]
theorem XF.rep {a b : Expr} {ma : Res (List α)} {mb : Res Int} (ha : XW X W ρ a ma) (hb : XV X W ρ b mb) : XF X W ρ (.BinOp a .Mult b pos) (do
    let x ← ma
    let y ← mb
    repL x y) := bin_w op_rep ha hb.w fun F H x y v u Q s r1 r2 p => by
  obtain ⟨a, vs, rfl, h1, h2⟩ := r1.lst_of s
  unfold repL at p
  split at p
  · rename_i hl
    refine ⟨a, y, vs, rfl, r2.int_of, h1, hl.1, hl.2.1, ?_, fun q nq => p q F _ (.own s nq) nq ⟨sub_free s nq, .inl ⟨_, _, upd_same, h2.flat y.toNat, ?_⟩⟩⟩
    · rw [h2.length, List.length_map, ← lim_line]; exact hl.2.2
    · show toD (List.replicate y.toNat x).flatten = .list _
      rw [map_rep]; rfl
  · exact p.elim

/-! ### built-ins: one argument, two arguments -/
def rdC1 (K : PySem.W.Frag) (f : α → Res γ) : List V → Hp → VK → Prop := fun vs H Q => ∃ F x z v, Sub F H ∧ vs = [v] ∧ RpH K F H v (toD x) ∧ f x = .ok z ∧ ∀ u F' H', Grow F H F' H' → Rp K F' u (toD z) → Q u H'
def rdC1F (K : PySem.W.Frag) (f : α → Res γ) : List V → Hp → VK → Prop := fun vs H Q => ∃ F x z v, Sub F H ∧ vs = [v] ∧ RpH K F H v (toD x) ∧ f x = .ok z ∧ ∀ a F' H', Grow F H F' H' → H a = none → Cell K F' H' a (toD z) → Q (.ref a) H'
structure C1 (X : Cx) (g : Value) (f : α → Res γ) : Prop where
  run : CallR X g (rdC1 X.K f)
  no : ∀ x c i, f x ≠ .exc c i
structure C1F (X : Cx) (g : Value) (f : α → Res γ) : Prop where
  run : CallR X g (rdC1F X.K f)
  no : ∀ x c i, f x ≠ .exc c i
theorem CallR.imp {g : Value} {r r' : List V → Hp → VK → Prop} (h : CallR X g r) (i : ∀ xs H Q, r' xs H Q → r xs H Q) : CallR X g r' := fun pins s σ H xs us Q I rs q => h pins s σ H xs us Q I rs (i xs H Q q)
/-- one operand's arguments, read -/
theorem XA.one {e : Expr} {m : Res α} (he : XW X W ρ e m) (hs : starEach [e] X.env = [(false, eval e X.env)] := by rfl) : PA X [e] (fun σ H Q => ∃ F0 H0 F, Rho X.K X.N.length F0 H0 F H σ ρ ∧ PostW X.K W F H (m.map toD) (fun v H1 => Q [v] H1)) :=
  PA.imp (pa_cons he pa_nil hs) fun σ H Q ⟨F0, H0, F, R, p⟩ => ⟨F0, H0, F, R, p⟩
theorem call1_core {t : List V → Hp → VK → Prop} {e : Expr} {m : Res α} {f : α → Res γ} {call : Expr} (h : PE X call (tCB (rdC1 X.K f) (fun σ H Q => ∃ F0 H0 F, Rho X.K X.N.length F0 H0 F H σ ρ ∧ PostW X.K W F H (m.map toD) (fun v H1 => Q [v] H1)))) (no : ∀ x c i, f x ≠ .exc c i) : XV X W ρ call (do
    let x ← m
    f x) := by
  refine PE.imp h fun σ H Q ⟨F0, H0, F, R, p⟩ => ⟨F0, H0, F, R, ?_⟩
  cases m with
  | exc c i => exact p
  | stuck => exact p
  | ok x =>
    intro v F1 H1 g1 r1
    have p1 : PostV X.K W F1 H1 ((f x).map toD) Q := PostV.grow g1 p
    cases e : f x with
    | exc c i => exact absurd e (no x c i)
    | stuck => rw [e] at p1; exact p1.elim
    | ok z =>
      rw [e] at p1
      exact ⟨F1, x, z, v, g1.fh, rfl, r1, e, p1⟩
theorem call1F_core {e : Expr} {m : Res α} {f : α → Res γ} {call : Expr} (h : PE X call (tCB (rdC1F X.K f) (fun σ H Q => ∃ F0 H0 F, Rho X.K X.N.length F0 H0 F H σ ρ ∧ PostW X.K W F H (m.map toD) (fun v H1 => Q [v] H1)))) (no : ∀ x c i, f x ≠ .exc c i) : XF X W ρ call (do
    let x ← m
    f x) := by
  refine PE.imp h fun σ H Q ⟨F0, H0, F, R, p⟩ => ⟨F0, H0, F, R, ?_⟩
  cases m with
  | exc c i => exact p
  | stuck => exact p
  | ok x =>
    intro v F1 H1 g1 r1
    have p1 : PostF X.K W F1 H1 ((f x).map toD) Q := PostF.grow g1 p
    cases e : f x with
    | exc c i => exact absurd e (no x c i)
    | stuck => rw [e] at p1; exact p1.elim
    | ok z =>
      rw [e] at p1
      exact ⟨F1, x, z, v, g1.fh, rfl, r1, e, p1⟩
variable {x : Str}
theorem XV.callB {id : String} {e : Expr} {p : Pos} {m : Res α} {f : α → Res γ} (hc : C1 X (.builtin id) f) (hg : Gl X x) (hm : X.mg x = none) (hv : bootBuiltins x = some (.builtin id)) (he : XW X W ρ e m) (hn : x ≠ "__name__" := by decide) (hdb : (x == ("__debug__" : Str)) = false := by decide)
    (hs : starEach [e] X.env = [(false, eval e X.env)] := by rfl) : XV X W ρ (.Call (.Name x p) [e] [] pos) (do
    let y ← m
    f y) := call1_core (t := rdC1 X.K f) (e := e) (pe_callB hc.run hg hm hv (XA.one he hs) hn hdb hs rfl) hc.no
theorem XV.callT {T : String} {e : Expr} {p : Pos} {m : Res α} {f : α → Res γ} (hc : C1 X (.type T) f) (hg : Gl X x) (hm : X.mg x = none) (hv : bootBuiltins x = some (.type T)) (he : XW X W ρ e m) (hn : x ≠ "__name__" := by decide) (hdb : (x == ("__debug__" : Str)) = false := by decide)
    (hs : starEach [e] X.env = [(false, eval e X.env)] := by rfl) : XV X W ρ (.Call (.Name x p) [e] [] pos) (do
    let y ← m
    f y) := call1_core (t := rdC1 X.K f) (e := e) (pe_callTy hc.run hg hm hv (XA.one he hs) hn hdb hs rfl) hc.no
theorem XF.callB {id : String} {e : Expr} {p : Pos} {m : Res α} {f : α → Res γ} (hc : C1F X (.builtin id) f) (hg : Gl X x) (hm : X.mg x = none) (hv : bootBuiltins x = some (.builtin id)) (he : XW X W ρ e m) (hn : x ≠ "__name__" := by decide) (hdb : (x == ("__debug__" : Str)) = false := by decide)
    (hs : starEach [e] X.env = [(false, eval e X.env)] := by rfl) : XF X W ρ (.Call (.Name x p) [e] [] pos) (do
    let y ← m
    f y) := call1F_core (e := e) (pe_callB hc.run hg hm hv (XA.one he hs) hn hdb hs rfl) hc.no
theorem XF.callT {T : String} {e : Expr} {p : Pos} {m : Res α} {f : α → Res γ} (hc : C1F X (.type T) f) (hg : Gl X x) (hm : X.mg x = none) (hv : bootBuiltins x = some (.type T)) (he : XW X W ρ e m) (hn : x ≠ "__name__" := by decide) (hdb : (x == ("__debug__" : Str)) = false := by decide)
    (hs : starEach [e] X.env = [(false, eval e X.env)] := by rfl) : XF X W ρ (.Call (.Name x p) [e] [] pos) (do
    let y ← m
    f y) := call1F_core (e := e) (pe_callTy hc.run hg hm hv (XA.one he hs) hn hdb hs rfl) hc.no
theorem b_len : C1 X (.builtin "len") (fun xs : List α => Res.ok (lenL xs)) := ⟨CallR.imp call_len_seq fun vs H Q ⟨F, x, z, v, s, e, r, ez, q⟩ => by
  cases ez
  obtain ⟨a, xs, rfl, h1, h2⟩ := r.lst_of s
  refine ⟨a, xs, e, .inl (.inl (.inl h1)), ?_⟩
  have hl : (xs.length : Int) = lenL x := by unfold lenL; rw [h2.length, List.length_map]
  rw [hl]
  exact q _ F H (.refl s) (.int _), fun _ _ _ e => by cases e⟩
theorem b_lenT : C1 X (.builtin "len") (fun xs : Tup α => Res.ok (lenL xs.l)) := ⟨CallR.imp call_len_seq fun vs H Q ⟨F, x, z, v, s, e, r, ez, q⟩ => by
  cases ez
  obtain ⟨a, xs, rfl, h1, h2⟩ := r.tup_of s
  refine ⟨a, xs, e, .inr h1, ?_⟩
  have hl : (xs.length : Int) = lenL x.l := by unfold lenL; rw [h2.length, List.length_map]
  rw [hl]
  exact q _ F H (.refl s) (.int _), fun _ _ _ e => by cases e⟩
theorem b_abs : C1 X (.builtin "abs") (fun i : Int => Res.ok (absI i)) := ⟨CallR.imp call_abs fun vs H Q ⟨F, x, z, v, s, e, r, ez, q⟩ => by
  cases ez
  have := r.int_of
  subst this
  exact ⟨x, e, q _ F H (.refl s) (.int _)⟩, fun _ _ _ e => by cases e⟩
theorem RpH.bl_of {K : PySem.W.Frag} {F H : Hp} {v : V} {i : Bool} (r : RpH K F H v (.bool i)) : v = .bl i := by
  rcases r with r | ⟨a, _, c⟩
  · exact r.bl_of
  · obtain ⟨_, ⟨_, _, _, _, e⟩ | ⟨_, _, _, _, e⟩ | ⟨_, _, _, _, e⟩⟩ := c <;> cases e
theorem RpH.str_of {K : PySem.W.Frag} {F H : Hp} {v : V} {i : Str} (r : RpH K F H v (.str i)) : v = .str i := by
  rcases r with r | ⟨a, _, c⟩
  · exact r.str_of
  · obtain ⟨_, ⟨_, _, _, _, e⟩ | ⟨_, _, _, _, e⟩ | ⟨_, _, _, _, e⟩⟩ := c <;> cases e
theorem b_int : C1 X (.type "int") (fun i : Int => Res.ok i) := ⟨CallR.imp call_int1 fun vs H Q ⟨F, x, z, v, s, e, r, ez, q⟩ => by
  cases ez
  have := r.int_of
  subst this
  exact .inl ⟨x, e, q _ F H (.refl s) (.int _)⟩, fun _ _ _ e => by cases e⟩
theorem b_intB : C1 X (.type "int") (fun b : Bool => Res.ok (boolI b)) := ⟨CallR.imp call_int1 fun vs H Q ⟨F, x, z, v, s, e, r, ez, q⟩ => by
  cases ez
  have := r.bl_of
  subst this
  exact .inr ⟨x, e, q _ F H (.refl s) (.int _)⟩, fun _ _ _ e => by cases e⟩
theorem ints_of {K : PySem.W.Frag} {F : Hp} : ∀ {vs : List V} {xs : List Int}, RpAll K F vs (xs.map toD) → vs = xs.map V.int
  | _, [], .nil => rfl
  | _, x :: xs, .cons r t => by rw [List.map_cons, ← ints_of t]; exact congrArg (· :: _) r.int_of
theorem bls_of {K : PySem.W.Frag} {F : Hp} : ∀ {vs : List V} {xs : List Bool}, RpAll K F vs (xs.map toD) → vs = xs.map V.bl
  | _, [], .nil => rfl
  | _, x :: xs, .cons r t => by rw [List.map_cons, ← bls_of t]; exact congrArg (· :: _) r.bl_of
theorem b_sum (hc : X.calm = true) : C1 X (.builtin "sum") (fun xs : List Int => Res.ok (sumI xs)) := ⟨CallR.imp (cr_sum hc) fun vs H Q ⟨F, x, z, v, s, e, r, ez, q⟩ => by
  cases ez
  obtain ⟨a, xs, rfl, h1, h2⟩ := r.lst_of s
  rw [ints_of h2] at h1
  exact ⟨a, x, e, .inl (.inl h1), q _ F H (.refl s) (.int _)⟩, fun _ _ _ e => by cases e⟩
theorem b_all (hc : X.calm = true) : C1 X (.builtin "all") (fun xs : List Bool => Res.ok (xs.all id)) := ⟨CallR.imp (cr_all hc) fun vs H Q ⟨F, x, z, v, s, e, r, ez, q⟩ => by
  cases ez
  obtain ⟨a, xs, rfl, h1, h2⟩ := r.lst_of s
  rw [bls_of h2] at h1
  exact ⟨a, x, e, .inl (.inl h1), q _ F H (.refl s) (.bl _)⟩, fun _ _ _ e => by cases e⟩
theorem b_any (hc : X.calm = true) : C1 X (.builtin "any") (fun xs : List Bool => Res.ok (xs.any id)) := ⟨CallR.imp (cr_any hc) fun vs H Q ⟨F, x, z, v, s, e, r, ez, q⟩ => by
  cases ez
  obtain ⟨a, xs, rfl, h1, h2⟩ := r.lst_of s
  rw [bls_of h2] at h1
  exact ⟨a, x, e, .inl (.inl h1), q _ F H (.refl s) (.bl _)⟩, fun _ _ _ e => by cases e⟩
theorem foldl_max_spec : ∀ (xs : List Int) (a : Int), (xs.foldl max a = a ∨ xs.foldl max a ∈ xs) ∧ a ≤ xs.foldl max a ∧ ∀ y ∈ xs, y ≤ xs.foldl max a
  | [], a => ⟨.inl rfl, Int.le_refl _, fun _ h => nomatch h⟩
  | x :: xs, a => by
    obtain ⟨h1, h2, h3⟩ := foldl_max_spec xs (max a x)
    rw [List.foldl_cons]
    refine ⟨?_, by omega, fun y hy => ?_⟩
    · rcases h1 with h | h
      · by_cases hx : a ≤ x
        · right; rw [h]; rw [Int.max_eq_right hx]; exact List.mem_cons_self
        · left; rw [h]; omega
      · right; exact List.mem_cons_of_mem _ h
    · rcases List.mem_cons.mp hy with rfl | hy
      · omega
      · exact h3 y hy
theorem foldl_min_spec : ∀ (xs : List Int) (a : Int), (xs.foldl min a = a ∨ xs.foldl min a ∈ xs) ∧ xs.foldl min a ≤ a ∧ ∀ y ∈ xs, xs.foldl min a ≤ y
  | [], a => ⟨.inl rfl, Int.le_refl _, fun _ h => nomatch h⟩
  | x :: xs, a => by
    obtain ⟨h1, h2, h3⟩ := foldl_min_spec xs (min a x)
    rw [List.foldl_cons]
    refine ⟨?_, by omega, fun y hy => ?_⟩
    · rcases h1 with h | h
      · by_cases hx : x ≤ a
        · right; rw [h]; rw [Int.min_eq_right hx]; exact List.mem_cons_self
        · left; rw [h]; omega
      · right; exact List.mem_cons_of_mem _ h
    · rcases List.mem_cons.mp hy with rfl | hy
      · omega
      · exact h3 y hy
theorem maxL_spec {xs : List Int} {m : Int} (h : maxL xs = .ok m) : m ∈ xs ∧ ∀ y ∈ xs, y ≤ m := by
  cases xs with
  | nil => cases h
  | cons x xs =>
    cases h
    obtain ⟨h1, h2, h3⟩ := foldl_max_spec xs x
    refine ⟨?_, fun y hy => ?_⟩
    · rcases h1 with h | h
      · rw [h]; exact List.mem_cons_self
      · exact List.mem_cons_of_mem _ h
    · rcases List.mem_cons.mp hy with rfl | hy
      · exact h2
      · exact h3 y hy
theorem minL_spec {xs : List Int} {m : Int} (h : minL xs = .ok m) : m ∈ xs ∧ ∀ y ∈ xs, m ≤ y := by
  cases xs with
  | nil => cases h
  | cons x xs =>
    cases h
    obtain ⟨h1, h2, h3⟩ := foldl_min_spec xs x
    refine ⟨?_, fun y hy => ?_⟩
    · rcases h1 with h | h
      · rw [h]; exact List.mem_cons_self
      · exact List.mem_cons_of_mem _ h
    · rcases List.mem_cons.mp hy with rfl | hy
      · exact h2
      · exact h3 y hy
theorem b_max (hc : X.calm = true) : C1 X (.builtin "max") maxL := ⟨CallR.imp (cr_max hc) fun vs H Q ⟨F, x, z, v, s, e, r, ez, q⟩ => by
  obtain ⟨a, xs, rfl, h1, h2⟩ := r.lst_of s
  rw [ints_of h2] at h1
  obtain ⟨m1, m2⟩ := maxL_spec ez
  refine ⟨a, x, e, .inl (.inl h1), List.length_pos_of_mem m1, fun m q1 q2 => ?_⟩
  have : m = z := Int.le_antisymm (m2 m q1) (q2 z m1)
  subst this
  exact q _ F H (.refl s) (.int _), fun x _ _ e => by cases x <;> cases e⟩
theorem b_min (hc : X.calm = true) : C1 X (.builtin "min") minL := ⟨CallR.imp (cr_min hc) fun vs H Q ⟨F, x, z, v, s, e, r, ez, q⟩ => by
  obtain ⟨a, xs, rfl, h1, h2⟩ := r.lst_of s
  rw [ints_of h2] at h1
  obtain ⟨m1, m2⟩ := minL_spec ez
  refine ⟨a, x, e, .inl (.inl h1), List.length_pos_of_mem m1, fun m q1 q2 => ?_⟩
  have : m = z := Int.le_antisymm (q2 z m1) (m2 m q1)
  subst this
  exact q _ F H (.refl s) (.int _), fun x _ _ e => by cases x <;> cases e⟩
theorem b_list : C1F X (.type "list") (fun xs : List α => Res.ok xs) := ⟨CallR.imp call_list_of fun vs H Q ⟨F, x, z, v, s, e, r, ez, q⟩ => by
  cases ez
  obtain ⟨a, xs, rfl, h1, h2⟩ := r.lst_of s
  exact ⟨a, xs, e, .inl (.inl (.inl h1)), fun l nl => q l F _ (.own s nl) nl ⟨sub_free s nl, .inl ⟨_, _, upd_same, h2, rfl⟩⟩⟩, fun _ _ _ e => by cases e⟩
theorem b_listT : C1F X (.type "list") (fun xs : Tup α => Res.ok xs.l) := ⟨CallR.imp call_list_of fun vs H Q ⟨F, x, z, v, s, e, r, ez, q⟩ => by
  cases ez
  obtain ⟨a, xs, rfl, h1, h2⟩ := r.tup_of s
  exact ⟨a, xs, e, .inr h1, fun l nl => q l F _ (.own s nl) nl ⟨sub_free s nl, .inl ⟨_, _, upd_same, h2, rfl⟩⟩⟩, fun _ _ _ e => by cases e⟩
theorem b_tuple : C1 X (.type "tuple") (fun xs : List α => Res.ok (Tup.mk xs)) := ⟨CallR.imp call_tuple_of fun vs H Q ⟨F, x, z, v, s, e, r, ez, q⟩ => by
  cases ez
  obtain ⟨a, xs, rfl, h1, h2⟩ := r.lst_of s
  exact ⟨a, xs, e, .inl ⟨.inl (.inl h1), fun l nl => q _ _ _ (.new s nl) (.tup upd_same (h2.sub (sub_upd (sub_free s nl))))⟩⟩, fun _ _ _ e => by cases e⟩
/-- two numbers -/
theorem XV.call2 {id : String} {e e' : Expr} {p : Pos} {g : Int → Int → Int} {m m' : Res Int} (hc : CallR X (.builtin id) (fun xs H Q => ∃ i j, xs = [.int i, .int j] ∧ Q (.int (g i j)) H)) (hg : Gl X x) (hm : X.mg x = none) (hv : bootBuiltins x = some (.builtin id)) (he : XV X W ρ e m) (he' : XV X W ρ e' m')
    (hn : x ≠ "__name__" := by decide) (hdb : (x == ("__debug__" : Str)) = false := by decide) (hs : starEach [e, e'] X.env = (false, eval e X.env) :: starEach [e'] X.env := by rfl) (hs2 : starEach [e'] X.env = [(false, eval e' X.env)] := by rfl) : XV X W ρ (.Call (.Name x p) [e, e'] [] pos) (do
    let i ← m
    let j ← m'
    .ok (g i j)) := by
  refine PE.imp (pe_callB hc hg hm hv (XA.cons he (XA.cons he' XA.nil hs2) hs) hn hdb (by rw [hs, hs2]) (by rw [hs2]; rfl)) fun σ H Q ⟨F0, H0, F, R, p⟩ => ⟨F0, H0, F, R, ?_⟩
  cases m with
  | exc c i => exact p
  | stuck => exact p
  | ok i => cases m' with
    | exc c i => exact p
    | stuck => exact p
    | ok j =>
      intro vs F1 H1 g1 r1
      cases r1 with
      | cons r1 t => cases t with
        | cons r2 t =>
          cases t
          exact ⟨i, j, by rw [r1.int_of, r2.int_of], p _ F1 H1 g1 (.int _)⟩
theorem max2_eq (i j : Int) : (if j > i then j else i) = max2 i j := rfl
end
end Vs
end
section
set_option Elab.async false
set_option linter.all false
set_option maxRecDepth 100000
set_option maxHeartbeats 1000000
/-! Vs4: targets, loops, statements, comprehensions, defs. -/
namespace Vs
open Enc (toD)
open PySem PySem.Spec PyProof.Rows L2

/-! ### which slots are known behind a store -/
def keepAt (ρ : Rs) (ks : List Nat) : Rs := ks.filterMap fun k => ρ[k]?
def okK (ρ : Rs) (is ks : List Nat) : Bool := ks.all fun k => match ρ[k]? with
  | some p => !is.contains p.1
  | none => true
theorem keep_mem {ρ : Rs} {ks : List Nat} {p : Nat × SV} (h : p ∈ keepAt ρ ks) : p ∈ ρ := by
  obtain ⟨k, _, e⟩ := List.mem_filterMap.mp h
  exact List.mem_of_getElem? e
theorem keep_ne {ρ : Rs} {is ks : List Nat} {p : Nat × SV} (h : p ∈ keepAt ρ ks) (o : okK ρ is ks = true) : p.1 ∉ is := by
  obtain ⟨k, hk, e⟩ := List.mem_filterMap.mp h
  have q := List.all_eq_true.mp o k hk
  rw [e] at q
  intro hm
  simp [List.contains_iff_mem, hm] at q
theorem put_w {ρ : Rs} {i : Nat} {sv : SV} {ks : List Nat} (o : okK ρ [i] ks = true) : ∀ p ∈ (i, sv) :: keepAt ρ ks, p = (i, sv) ∨ (p ∈ ρ ∧ p.1 ≠ i) := fun p hp => by
  rcases List.mem_cons.mp hp with h | h
  · exact .inl h
  · exact .inr ⟨keep_mem h, fun e => keep_ne h o (by simp [e])⟩

section
variable {X : Cx} {W : WX} {ρ : Rs} {pos : Pos} {α β γ δ S τ Ω : Type} [Enc α] [Enc β] [Enc γ] [Enc δ]

/-! ### targets -/
def rdG (K : PySem.W.Frag) (n : Nat) (is : List Nat) (ρ : Rs) (d : PyData) (ρ' : Rs) : TG := fun v σ H Q => ∃ F0 H0 F, Rho K n F0 H0 F H σ ρ ∧ Rp K F v d ∧ ∀ σ', Rho K n F0 H0 F H σ' ρ' → (∀ j, j ∉ is → σ'[j]? = σ[j]?) → Q σ' H
def rdGs (K : PySem.W.Frag) (n : Nat) (is : List Nat) (ρ : Rs) (ds : List PyData) (ρ' : Rs) : TGs := fun vs σ H Q => ∃ F0 H0 F, Rho K n F0 H0 F H σ ρ ∧ RpAll K F vs ds ∧ ∀ σ', Rho K n F0 H0 F H σ' ρ' → (∀ j, j ∉ is → σ'[j]? = σ[j]?) → Q σ' H
abbrev XG (X : Cx) (is : List Nat) (ρ : Rs) (tg : Expr) (d : PyData) (ρ' : Rs) : Prop := PG X tg (rdG X.K X.N.length is ρ d ρ')
abbrev XGs (X : Cx) (is : List Nat) (ρ : Rs) (tgs : List Expr) (ds : List PyData) (ρ' : Rs) : Prop := PGs X tgs (rdGs X.K X.N.length is ρ ds ρ')
theorem PG.imp {e : Expr} {t t' : TG} (h : PG X e t) (hi : ∀ v σ H Q, t' v σ H Q → t v σ H Q) : PG X e t' := ⟨fun pins s σ H v u Q I r q => h.run pins s σ H v u Q I r (hi v σ H Q q)⟩
theorem PGs.imp {e : List Expr} {t t' : TGs} (h : PGs X e t) (hi : ∀ v σ H Q, t' v σ H Q → t v σ H Q) : PGs X e t' := ⟨fun pins s σ H v u Q I r q => h.run pins s σ H v u Q I r (hi v σ H Q q)⟩
theorem PG.ex {ι : Type} {e : Expr} {t : ι → TG} (h : ∀ i, PG X e (t i)) : PG X e (fun v σ H Q => ∃ i, t i v σ H Q) := ⟨fun pins s σ H v u Q I r ⟨i, q⟩ => (h i).run pins s σ H v u Q I r q⟩
theorem PGs.ex {ι : Type} {e : List Expr} {t : ι → TGs} (h : ∀ i, PGs X e (t i)) : PGs X e (fun v σ H Q => ∃ i, t i v σ H Q) := ⟨fun pins s σ H v u Q I r ⟨i, q⟩ => (h i).run pins s σ H v u Q I r q⟩
theorem XG.name (i : Nat) (ks : List Nat) {d : PyData} {ρ' : Rs} {nm : Str} (hN : X.N.Nodup) (hi : X.N[i]? = some nm := by rfl) (hρ : ρ' = (i, SV.sh d) :: keepAt ρ ks := by rfl) (ho : okK ρ [i] ks = true := by rfl) (hx : Loc X.env.scope nm := by first | exact Or.inl rfl | exact Or.inr rfl)
    (hf : X.fn nm = true ∨ X.env.scope.names.lookup nm = some .local := by first | exact .inl rfl | exact .inr rfl) : XG X [i] ρ (.Name nm pos) d ρ' := by
  refine PG.imp (pg_name hN hi hx hf) fun v σ H Q ⟨F0, H0, F, R, r, q⟩ => ?_
  refine q _ (R.set (List.getElem?_eq_some_iff.mp hi).1 r (by rw [hρ]; exact put_w ho)) fun j hj => ?_
  rw [List.getElem?_set_ne (by simp at hj; exact Ne.symm hj)]
theorem XGs.nil : XGs X [] ρ [] [] ρ := PGs.imp pgs_nil fun vs σ H Q ⟨F0, H0, F, R, r, q⟩ => by
  cases r
  exact ⟨rfl, q σ R fun _ _ => rfl⟩
theorem XGs.cons {is is' : List Nat} {ρ1 ρ' : Rs} {e : Expr} {es : List Expr} {d : PyData} {ds : List PyData} (h : XG X is ρ e d ρ1) (hs : XGs X is' ρ1 es ds ρ')
    (hq : (assignEach (e :: es) X.env).map (·.2) = assign e X.env :: (assignEach es X.env).map (·.2) := by rfl) : XGs X (is ++ is') ρ (e :: es) (d :: ds) ρ' := by
  refine PGs.imp (pgs_cons h hs hq) fun vs σ H Q ⟨F0, H0, F, R, r, q⟩ => ?_
  cases r with
  | cons r rr => exact ⟨_, _, rfl, F0, H0, F, R, r, fun σ1 R1 k1 => ⟨F0, H0, F, R1, rr, fun σ2 R2 k2 => q σ2 R2 fun j hj => by
      rw [List.mem_append, not_or] at hj
      exact (k2 j hj.2).trans (k1 j hj.1)⟩⟩
theorem XG.tup {is : List Nat} {k : Nat} {es : List Expr} {ds : List PyData} {ρ' : Rs} (hc : X.calm = true) (h : XGs X is ρ es ds ρ') (hn : (assignEach es X.env).length = ds.length := by rfl) (hst : (assignEach es X.env).findIdx? (·.1) = none := by rfl) :
    XG X is ρ (.Tuple es k pos) (.tuple ds) ρ' := by
  refine PG.imp (pg_tup hc h hn hst) fun v σ H Q ⟨F0, H0, F, R, r, q⟩ => ?_
  obtain ⟨a, xs, rfl, h1, h2⟩ := r.tup_of
  exact ⟨a, xs, rfl, sub_seqT R.fh h1, h2.length, F0, H0, F, R, h2, q⟩
theorem XG.weak {is : List Nat} {tg : Expr} {d : PyData} {ρ0 ρ' : Rs} (h : XG X is ρ0 tg d ρ') (w : ∀ p ∈ ρ0, p ∈ ρ) : XG X is ρ tg d ρ' := PG.imp h fun v σ H Q ⟨F0, H0, F, R, r, q⟩ => ⟨F0, H0, F, R.weak w, r, q⟩

/-! ### what is walked -/
structure ItOk (K : PySem.W.Frag) (J : It) (F : Hp) (ds : List PyData) : Prop where
  go : ∀ i F1 H1, Sub F F1 → Sub F1 H1 → i < ds.length → J.go i H1
  yld : ∀ i F1 H1 d x H2, Sub F F1 → Sub F1 H1 → ds[i]? = some d → J.yld i H1 x H2 → ∃ F2, Grow F1 H1 F2 H2 ∧ Rp K F2 x d
  stop : ∀ i F1 H1, Sub F F1 → Sub F1 H1 → ds.length ≤ i → J.stop i H1
def PostI (K : PySem.W.Frag) (W : WX) (F H : Hp) (m : Res (List PyData)) (R : It → Hp → Prop) : Prop := match m with
  | .ok ds => ∀ J F' H', Grow F H F' H' → ItOk K J F' ds → ds.length ≤ sizeLine → R J H'
  | .exc c i => ∀ dx F' H' σ', Grow F H F' H' → XdAt H' dx i → H dx = none → W (cv K c) (some dx) σ' H'
  | .stuck => False
def rdI (K : PySem.W.Frag) (n : Nat) (W : WX) (ρ : Rs) (m : Res (List PyData)) : TI := fun σ H R => ∃ F0 H0 F, Rho K n F0 H0 F H σ ρ ∧ PostI K W F H m R
theorem PE.len {e : Expr} {t : TE} (h : PE X e t) : PE X e (fun σ H Q => t σ H fun v H1 => (∀ a xs, H1 a = some (.lst xs) → xs.length ≤ sizeLine) → Q v H1) :=
  ⟨fun pins s σ H Q I q => thn (h.run pins s σ H _ I q) fun u s1 ⟨v, H1, I1, r, q1⟩ => ⟨v, H1, I1, r, q1 fun a xs e => (I1.hok a _ e).1⟩⟩
abbrev XI (X : Cx) (W : WX) (ρ : Rs) {α : Type} [Enc α] (tg iter : Expr) (m : Res (List α)) : Prop := PI X tg iter (rdI X.K X.N.length W ρ (m.map fun xs => xs.map toD))
theorem PI.imp {tg iter : Expr} {t t' : TI} (h : PI X tg iter t) (hi : ∀ σ H R, t' σ H R → t σ H R) : PI X tg iter t' := ⟨fun pins s σ H R I q => h.run pins s σ H R I (hi σ H R q)⟩
theorem XI.eq {tg iter : Expr} {m m' : Res (List α)} (h : XI X W ρ tg iter m) (q : m' = m) : XI X W ρ tg iter m' := by rw [q]; exact h
/-- a list's length is within the line -/
theorem len_list {K : PySem.W.Frag} {F H : Hp} {a : Addr} {xs : List V} {pins : List (Addr × Obj)} {σ : St} {s : Shared} (I : Inv X pins σ H s) (h : H a = some (.lst xs)) : xs.length ≤ sizeLine := (I.hok a _ h).1
theorem it_list {K : PySem.W.Frag} {F : Hp} {a : Addr} {xs : List V} {ds : List PyData} (e : F a = some (.lst xs)) (r : RpAll K F xs ds) : ItOk K (Itl K a) F ds := by
  refine ⟨fun i F1 H1 s1 s2 hi => ?_, fun i F1 H1 d x H2 s1 s2 hd hy => ?_, fun i F1 H1 s1 s2 hi => ?_⟩
  · have hi' : i < xs.length := by rw [r.length]; exact hi
    exact ⟨xs, xs[i], .inl (.inl (s2 _ _ (s1 _ _ e))), by simp [hi']⟩
  · obtain ⟨rfl, hx⟩ := hy
    have hx' := hx xs (.inl (.inl (s2 _ _ (s1 _ _ e))))
    obtain ⟨v, h1, h2⟩ := r.get hd
    rw [hx'] at h1; cases h1
    exact ⟨F1, .refl s2, h2.sub s1⟩
  · exact ⟨xs, .inl (.inl (s2 _ _ (s1 _ _ e))), by rw [r.length]; exact hi⟩
theorem it_tup {K : PySem.W.Frag} {F : Hp} {a : Addr} {xs : List V} {ds : List PyData} (e : SqT K F a xs) (r : RpAll K F xs ds) (un : ∀ F1 H1 ys, Sub F F1 → Sub F1 H1 → SqT K H1 a ys → ys = xs) : ItOk K (Itt K a) F ds := by
  refine ⟨fun i F1 H1 s1 s2 hi => ?_, fun i F1 H1 d x H2 s1 s2 hd hy => ?_, fun i F1 H1 s1 s2 hi => ?_⟩
  · have hi' : i < xs.length := by rw [r.length]; exact hi
    exact ⟨xs, xs[i], sub_seqT s2 (sub_seqT s1 e), by simp [hi']⟩
  · obtain ⟨rfl, hx⟩ := hy
    have hx' := hx xs (sub_seqT s2 (sub_seqT s1 e))
    obtain ⟨v, h1, h2⟩ := r.get hd
    rw [hx'] at h1; cases h1
    exact ⟨F1, .refl s2, h2.sub s1⟩
  · exact ⟨xs, sub_seqT s2 (sub_seqT s1 e), by rw [r.length]; exact hi⟩
theorem XI.list {tg e : Expr} {m : Res (List α)} (he : XV X W ρ e m) : XI X W ρ tg e m := by
  refine ⟨fun pins s σ H R I ⟨F0, H0, F, Rh, p⟩ => ?_⟩
  cases m with
  | exc c i => exact (pi_list (tg := tg) he).run pins s σ H R I ⟨F0, H0, F, Rh, p⟩
  | stuck => exact p.elim
  | ok xs =>
    -- the length is read off the state behind e
    refine thn (he.run pins s σ H (fun v H1 => ∃ a ys F1, v = .ref a ∧ F1 a = some (.lst ys) ∧ RpAll X.K F1 ys (xs.map toD) ∧ Grow F H F1 H1) I ⟨F0, H0, F, Rh, fun v F' H' g r => by
      obtain ⟨a, ys, e1, e2, e3⟩ := Rp.lst_of r
      exact ⟨a, ys, F', e1, e2, e3, g⟩⟩) fun u s1 ⟨v, H1, I1, rv, a, ys, F1, ev, ha, r, g⟩ => ?_
    subst ev
    obtain rfl : u = Value.ref a := rv
    obtain ⟨its, rv, pl, hz⟩ := I1.list (.inl (.inl (g.fh _ _ ha)))
    refine wpAny_pyIter_list pl.isList ?_
    refine ⟨s1.heap.objs.size, [s1.heap.objs.size], _, _, H1, rfl, I1.kept (t' := s1.toks) fun b o e => Heap.get?_push_of_some _ e, turn_list a _, ⟨_, Heap.get?_push_size _ rfl, rfl, rfl⟩, fun b hb => ?_, p _ F1 H1 g (it_list ha r) (by rw [← r.length]; exact hz)⟩
    have e : b = s1.heap.objs.size := by simpa using hb
    subst e
    exact I1.fpOk (Nat.le_refl _) (I1.hok.fresh (Nat.le_refl _))
/-- a, a + 1, .. -/
theorem it_range {K : PySem.W.Frag} {F : Hp} (lo hi : Int) : ItOk K (Itr lo (hi - lo).toNat) F ((rangeL lo hi).map toD) := by
  have hl : ((rangeL lo hi).map (toD : Int → PyData)).length = (hi - lo).toNat := by unfold rangeL; simp
  refine ⟨fun i F1 H1 s1 s2 hi => by rw [hl] at hi; exact hi, fun i F1 H1 d x H2 s1 s2 hd hy => ?_, fun i F1 H1 s1 s2 hi => by rw [hl] at hi; exact hi⟩
  obtain ⟨rfl, rfl⟩ := hy
  refine ⟨F1, .refl s2, ?_⟩
  have hlt := (List.getElem?_eq_some_iff.mp hd).1
  rw [hl] at hlt
  have e : ((rangeL lo hi).map (toD : Int → PyData))[i]? = some (.int (lo + (i : Int))) := by
    unfold rangeL
    simp only [List.map_map, List.getElem?_map, List.getElem?_range hlt, Option.map_some]
    rfl
  rw [e] at hd; cases hd
  exact .int _
theorem XI.range2 {tg a b : Expr} {p : Pos} {ma mb : Res Int} (hm : X.mg "range" = none) (ha : XV X W ρ a ma) (hb : XV X W ρ b mb) (hg : Gl X "range" := by rfl) (hs : starEach [a, b] X.env = [(false, eval a X.env), (false, eval b X.env)] := by rfl) (hs2 : starEach [b] X.env = [(false, eval b X.env)] := by rfl) : XI X W ρ tg (.Call (.Name "range" p) [a, b] [] pos) (do
    let x ← ma
    let y ← mb
    rangeR x y) := by
  refine PI.imp (pi_range2 hg hm (XA.cons ha (XA.cons hb XA.nil hs2) (by rw [hs, hs2])) hs hs2) fun σ H R ⟨F0, H0, F, Rh, p⟩ => ⟨F0, H0, F, Rh, ?_⟩
  cases ma with
  | exc c i => exact p
  | stuck => exact p
  | ok x => cases mb with
    | exc c i => exact p
    | stuck => exact p
    | ok y =>
      intro vs F1 H1 g1 r1
      have p1 : PostI X.K W F H ((rangeR x y).map (fun xs => xs.map toD)) R := p
      unfold rangeR at p1
      by_cases h : -(2 ^ 62) ≤ x ∧ x < 2 ^ 62 ∧ -(2 ^ 62) ≤ y ∧ y < 2 ^ 62 ∧ (y - x).toNat ≤ lim
      · rw [if_pos h] at p1
        obtain ⟨h1, h2, h3, h4, h5⟩ := h
        cases r1 with
        | cons r1 t => cases t with
          | cons r2 t =>
            cases t
            refine ⟨x, y, by rw [r1.int_of, r2.int_of], ⟨h1, h2, h3, h4⟩, p1 _ F1 H1 g1 (it_range x y) ?_⟩
            unfold rangeL
            simp only [List.length_map, List.length_range]
            rw [← lim_line]; exact h5
      · rw [if_neg h] at p1
        exact p1.elim
theorem XI.range1 {tg a : Expr} {p : Pos} {ma : Res Int} (hm : X.mg "range" = none) (ha : XV X W ρ a ma) (hg : Gl X "range" := by rfl) (hs : starEach [a] X.env = [(false, eval a X.env)] := by rfl) : XI X W ρ tg (.Call (.Name "range" p) [a] [] pos) (do
    let x ← ma
    rangeR 0 x) := by
  refine PI.imp (pi_range1 hg hm (XA.cons ha XA.nil hs) hs) fun σ H R ⟨F0, H0, F, Rh, p⟩ => ⟨F0, H0, F, Rh, ?_⟩
  cases ma with
  | exc c i => exact p
  | stuck => exact p
  | ok x =>
    intro vs F1 H1 g1 r1
    have p1 : PostI X.K W F H ((rangeR 0 x).map (fun xs => xs.map toD)) R := p
    unfold rangeR at p1
    by_cases h : -(2 ^ 62) ≤ (0 : Int) ∧ (0 : Int) < 2 ^ 62 ∧ -(2 ^ 62) ≤ x ∧ x < 2 ^ 62 ∧ (x - 0).toNat ≤ lim
    · rw [if_pos h] at p1
      obtain ⟨h1, h2, h3, h4, h5⟩ := h
      cases r1 with
      | cons r1 t =>
        cases t
        refine ⟨x, by rw [r1.int_of], h3, h4, ?_⟩
        have e := it_range (K := X.K) (F := F1) 0 x
        rw [Int.sub_zero] at e h5
        refine p1 _ F1 H1 g1 e ?_
        unfold rangeL
        simp only [List.length_map, List.length_range, Int.sub_zero]
        rw [← lim_line]; exact h5
    · rw [if_neg h] at p1
      exact p1.elim
theorem it_enum {K : PySem.W.Frag} {F : Hp} {a : Addr} {vs : List V} {xs : List α} (e : F a = some (.lst vs)) (r : RpAll K F vs (xs.map toD)) : ItOk K (Ite K a) F ((enumL xs).map toD) := by
  have hl : ((enumL xs).map (toD : Int × α → PyData)).length = vs.length := by unfold enumL; rw [r.length]; simp
  refine ⟨fun i F1 H1 s1 s2 hi => ?_, fun i F1 H1 d x H2 s1 s2 hd hy => ?_, fun i F1 H1 s1 s2 hi => ?_⟩
  · rw [hl] at hi
    exact ⟨vs, vs[i], .inl (.inl (s2 _ _ (s1 _ _ e))), by simp [hi]⟩
  · obtain ⟨T, v, rfl, nT, rfl, hx⟩ := hy
    have hx' := hx vs (.inl (.inl (s2 _ _ (s1 _ _ e))))
    obtain ⟨d', h1, h2⟩ := r.get' hx'
    refine ⟨_, .new s2 nT, ?_⟩
    have hi := (List.getElem?_eq_some_iff.mp hx').1
    have hi2 : i < xs.length := by have := r.length; rw [List.length_map] at this; omega
    have e1 : ((enumL xs).map (toD : Int × α → PyData))[i]? = some (.tuple [.int (i : Nat), toD xs[i]]) := by
      unfold enumL
      simp only [List.map_map, List.getElem?_map, List.getElem?_zipIdx, List.getElem?_eq_getElem hi2, Option.map_some, Nat.zero_add]
      rfl
    rw [e1] at hd; cases hd
    have e2 : d' = toD xs[i] := by
      rw [List.getElem?_map, List.getElem?_eq_getElem hi2] at h1
      exact (Option.some.inj h1).symm
    rw [e2] at h2
    exact .tup upd_same (.cons (.int _) (.cons ((h2.sub s1).sub (sub_upd (sub_free s2 nT))) .nil))
  · rw [hl] at hi
    exact ⟨vs, .inl (.inl (s2 _ _ (s1 _ _ e))), hi⟩
/-- a source given by one frozen list in its argument -/
theorem XI.of1 {tg iter : Expr} {e : Expr} {J : Addr → It} {m : Res (List α)} {f : List α → List β} (hl : ∀ xs : List α, (f xs).length ≤ xs.length) (he : XV X W ρ e m)
    (h : ∀ t : TE, PE X e t → PI X tg iter (fun σ H R => t σ H fun v H1 => ∃ a ys, [v] = [.ref a] ∧ SqL X.K H1 a ys ∧ R (J a) H1))
    (it : ∀ F a vs (xs : List α), F a = some (.lst vs) → RpAll X.K F vs (xs.map toD) → ItOk X.K (J a) F ((f xs).map toD)) : XI X W ρ tg iter (do
    let xs ← m
    .ok (f xs)) := by
  refine PI.imp (h _ (PE.len he)) fun σ H R ⟨F0, H0, F, Rh, p⟩ => ⟨F0, H0, F, Rh, ?_⟩
  cases m with
  | exc c i => exact p
  | stuck => exact p
  | ok xs =>
    intro v F1 H1 g1 r1 hz
    obtain ⟨a, ys, rfl, e1, e2⟩ := Rp.lst_of r1
    refine ⟨a, ys, rfl, .inl (.inl (g1.fh _ _ e1)), p _ F1 H1 g1 (it F1 a ys xs e1 e2) ?_⟩
    rw [List.length_map]
    have h1 := hl xs
    have h2 := e2.length
    have h3 := hz a ys (g1.fh _ _ e1)
    rw [List.length_map] at h2
    omega
theorem XI.enum {e : Expr} {p tpos : Pos} {elts : List Expr} {kk : Nat} {m : Res (List α)} (hm : X.mg "enumerate" = none) (he : XV X W ρ e m) (hg : Gl X "enumerate" := by rfl) (hs : starEach [e] X.env = [(false, eval e X.env)] := by rfl) :
    XI X W ρ (.Tuple elts kk tpos) (.Call (.Name "enumerate" p) [e] [] pos) (do
    let xs ← m
    .ok (enumL xs)) :=
  XI.of1 (J := Ite X.K) (fun xs => by unfold enumL; simp) he (fun t ht => pi_enum hg hm (pa_cons ht pa_nil hs) hs) (fun F a vs xs => it_enum)

/-! ### statements -/
theorem XB.nil {m : Res S} {s : S} {ρ' : S → Rs} (w : ∀ p ∈ ρ' s, p ∈ ρ) : XB X W ρ [] (.ok s) (fun s => .nx (ρ' s)) :=
  PSs.imp pss_nil fun D σ H ⟨F0, H0, F, R, p⟩ => p σ F H (R.weak w) fun _ _ e => e
/-- what holds of what is bound -/
def ExB (X : Cx) (W : WX) (ι : Type) (ρ' : ι → Rs) (mr : ι → Res τ) (fin : τ → Fi) : TS := fun D σ H => ∃ x, rdS X.K X.N.length W (ρ' x) (mr x) fin D σ H
/-- name = e -/
theorem XB.asg (i : Nat) (ks : List Nat) {nm : Str} {e : Expr} {p1 : Pos} {rest : List Stmt} {me : Res α} {mr : α → Res τ} {fin : τ → Fi} (ρ' : α → Rs) (hN : X.N.Nodup) (he : XV X W ρ e me) (hr : ∀ x, XB X W (ρ' x) rest (mr x) fin)
    (hρ : ∀ x, ρ' x = (i, SV.sh (toD x)) :: keepAt ρ ks := by intro _; rfl) (ho : okK ρ [i] ks = true := by rfl) (hi : X.N[i]? = some nm := by rfl) (hx : Loc X.env.scope nm := by first | exact Or.inl rfl | exact Or.inr rfl)
    (hs : swapsWith e (some (.Name nm p1)) pos.line X.env = pure false := by rfl) (hf : X.fn nm = true ∨ X.env.scope.names.lookup nm = some .local := by first | exact .inl rfl | exact .inr rfl) :
    XB X W ρ (.Assign [.Name nm p1] e pos :: rest) (do
    let x ← me
    mr x) fin := by
  refine PSs.imp (pss_cons (ps_set hN hi hx he hs hf) (PSs.ex hr)) fun D σ H ⟨F0, H0, F, R, p⟩ => ?_
  refine ⟨F0, H0, F, R, ?_⟩
  have q := PostS.bind R p
  cases me with
  | exc c i => exact q
  | stuck => exact q
  | ok x =>
    intro v F1 H1 g r
    refine ⟨x, F0, H0, F1, ?_, PostS.sub g.f p⟩
    exact (R.grow g).set (List.getElem?_eq_some_iff.mp hi).1 r (by rw [hρ]; exact put_w ho)
/-- name = e, a new list or dict that this name alone holds -/
theorem XB.asgO (i : Nat) (ks : List Nat) {nm : Str} {e : Expr} {p1 : Pos} {rest : List Stmt} {me : Res α} {mr : α → Res τ} {fin : τ → Fi} (ρ' : α → Rs) (hN : X.N.Nodup) (he : XF X W ρ e me) (hr : ∀ x, XB X W (ρ' x) rest (mr x) fin)
    (hρ : ∀ x, ρ' x = (i, SV.ow (toD x)) :: keepAt ρ ks := by intro _; rfl) (ho : okK ρ [i] ks = true := by rfl) (hi : X.N[i]? = some nm := by rfl) (hx : Loc X.env.scope nm := by first | exact Or.inl rfl | exact Or.inr rfl)
    (hs : swapsWith e (some (.Name nm p1)) pos.line X.env = pure false := by rfl) (hf : X.fn nm = true ∨ X.env.scope.names.lookup nm = some .local := by first | exact .inl rfl | exact .inr rfl) :
    XB X W ρ (.Assign [.Name nm p1] e pos :: rest) (do
    let x ← me
    mr x) fin := by
  refine PSs.imp (pss_cons (ps_set hN hi hx he hs hf) (PSs.ex hr)) fun D σ H ⟨F0, H0, F, R, p⟩ => ?_
  refine ⟨F0, H0, F, R, ?_⟩
  have q := PostS.bindF R p
  cases me with
  | exc c i => exact q
  | stuck => exact q
  | ok x =>
    intro a F1 H1 g z c
    refine ⟨x, F0, H0, F1, ?_, PostS.sub g.f p⟩
    refine (R.grow g).setO (List.getElem?_eq_some_iff.mp hi).1 c (sub_free R.base.h z) (fun j e m hj q => ?_) (by rw [hρ]; exact put_w ho)
    obtain ⟨b, e1, c1, _⟩ := R.ow j e m
    rw [q] at e1; cases e1
    exact c1.there z
/-- what slot i owns is frozen from here on (nothing is done) -/
theorem XB.freeze (k : Nat) (i : Nat) (ks : List Nat) {x : α} {sts : List Stmt} {m : Res τ} {fin : τ → Fi} (ρ' : Rs) (hk : ρ[k]? = some (i, SV.ow (toD x))) (hr : XB X W ρ' sts m fin)
    (hρ : ρ' = (i, SV.sh (toD x)) :: keepAt ρ ks := by rfl) (ho : okK ρ [i] ks = true := by rfl) : XB X W ρ sts m fin := by
  refine ⟨fun pins s σ H D I ⟨F0, H0, F, R, p⟩ => ?_⟩
  have hm := List.mem_of_getElem? hk
  obtain ⟨a, ea, c, z⟩ := R.ow i _ hm
  have w : ∀ q ∈ ρ', q = (i, SV.sh (toD x)) ∨ (q ∈ ρ ∧ q.1 ≠ i) := by rw [hρ]; exact put_w ho
  have c0 := c
  obtain ⟨zf, ⟨xs, ds, e1, r, e2⟩ | ⟨kvs, ds, e1, r, e2⟩ | ⟨kvs, ds, e1, r, e2⟩⟩ := c0
  · rw [e2] at hm w
    exact hr.run pins s σ H D I ⟨F0, H0, _, R.freezeL hm ea e1 w, PostS.sub (sub_upd zf) p⟩
  · obtain ⟨od, I2⟩ := I.lock e1 trivial
    have nz : ∀ b u, H0 b = some u → b ≠ a := fun b u e q => by rw [q, z] at e; cases e
    refine hr.run pins s σ _ D I2 ⟨F0, H0, upd F a (.frz od (.dK kvs)), ?_, PostS.sub (sub_upd zf) p⟩
    rw [e2] at hm w
    refine Rho.freezeD R hm ea w (u := .frz od (.dK kvs)) ?_ zf z
    exact .dk upd_same (r.sub (sub_upd zf))
  · obtain ⟨od, I2⟩ := I.lock e1 trivial
    refine hr.run pins s σ _ D I2 ⟨F0, H0, upd F a (.frz od (.dT kvs)), ?_, PostS.sub (sub_upd zf) p⟩
    rw [e2] at hm w
    refine Rho.freezeD R hm ea w (u := .frz od (.dT kvs)) ?_ zf z
    exact .dt upd_same (r.sub (sub_upd zf))
/-- e as a statement -/
theorem XB.expr {e : Expr} {rest : List Stmt} {me : Res α} {mr : Res τ} {fin : τ → Fi} (he : XV X W ρ e me) (hr : XB X W ρ rest mr fin) (hs : swapsWith e none pos.line X.env = pure false := by rfl) : XB X W ρ (.Expr e pos :: rest) (do
    let _ ← me
    mr) fin := by
  refine PSs.imp (pss_cons (ps_expr he hs) hr) fun D σ H ⟨F0, H0, F, R, p⟩ => ⟨F0, H0, F, R, ?_⟩
  have q := PostS.bind R p
  cases me with
  | exc c i => exact q
  | stuck => exact q
  | ok x => exact fun v F1 H1 g r => ⟨F0, H0, F1, R.grow g, PostS.sub g.f p⟩
/-- return e -/
theorem XB.ret {e : Expr} {rest : List Stmt} {me : Res α} (he : XV X W ρ e me) : XB X W ρ (.Return (some e) pos :: rest) me (fun b => .rt (toD b)) := by
  refine PSs.imp (pss_cons (ps_ret he) (pss_never (sts := rest))) fun D σ H ⟨F0, H0, F, R, p⟩ => ⟨F0, H0, F, R, ?_⟩
  cases me with
  | exc c i => exact excG R.base p
  | stuck => exact p
  | ok x => exact fun v F1 H1 g r => p v F1 H1 (R.base.trans g) r
/-- return e, within a block that may go on -/
theorem XB.retC {e : Expr} {rest : List Stmt} {me : Res α} {fin : τ → Fi} {o : α → τ} (ho : ∀ a, fin (o a) = .rt (toD a)) (he : XV X W ρ e me) : XB X W ρ (.Return (some e) pos :: rest) (do
    let x ← me
    .ok (o x)) fin := by
  refine PSs.imp (XB.ret (rest := rest) he) fun D σ H ⟨F0, H0, F, R, p⟩ => ⟨F0, H0, F, R, ?_⟩
  cases me with
  | exc c i => exact p
  | stuck => exact p
  | ok x =>
    have p' : (match fin (o x) with
      | .nx ρ' => ∀ σ' F' H', Rho X.K X.N.length F0 H0 F' H' σ' ρ' → Sub F F' → D.nx σ' H'
      | .rt d => ∀ v F' H', Grow F0 H0 F' H' → Rp X.K F' v d → D.rt v H'
      | .bk ρ' => ∀ σ' F' H', Rho X.K X.N.length F0 H0 F' H' σ' ρ' → Sub F F' → D.bk σ' H') := p
    rw [ho x] at p'
    exact p'
theorem XB.brk {rest : List Stmt} {fin : τ → Fi} {t : τ} {ρ' : Rs} (ht : fin t = .bk ρ') (w : ∀ p ∈ ρ', p ∈ ρ) : XB X W ρ (.Break pos :: rest) (.ok t) fin := by
  refine PSs.imp (pss_cons ps_break (pss_never (sts := rest))) fun D σ H ⟨F0, H0, F, R, p⟩ => ?_
  have p' : (match fin t with
    | .nx ρ' => ∀ σ' F' H', Rho X.K X.N.length F0 H0 F' H' σ' ρ' → Sub F F' → D.nx σ' H'
    | .rt d => ∀ v F' H', Grow F0 H0 F' H' → Rp X.K F' v d → D.rt v H'
    | .bk ρ' => ∀ σ' F' H', Rho X.K X.N.length F0 H0 F' H' σ' ρ' → Sub F F' → D.bk σ' H') := p
  rw [ht] at p'
  exact p' σ F H (R.weak w) fun _ _ e => e
theorem XB.eq {sts : List Stmt} {m m' : Res τ} {fin : τ → Fi} (h : XB X W ρ sts m fin) (q : m' = m) : XB X W ρ sts m' fin := by rw [q]; exact h
end
end Vs
end
section
set_option Elab.async false
set_option linter.all false
set_option maxRecDepth 100000
set_option maxHeartbeats 1000000
/-! Vs5: append, if, for, while, comprehensions, defs and calls. -/
namespace Vs
open Enc (toD)
open PySem PySem.Spec PyProof.Rows L2

section
variable {X : Cx} {W : WX} {ρ : Rs} {pos : Pos} {α β γ δ S τ Ω : Type} [Enc α] [Enc β] [Enc γ] [Enc δ]
theorem own_get {K : PySem.W.Frag} {n k i : Nat} {F0 H0 F H : Hp} {σ : St} {xs : List α} (R : Rho K n F0 H0 F H σ ρ) (h : ρ[k]? = some (i, SV.ow (toD xs))) : ∃ a vs, σ[i]? = some (some (.ref a)) ∧ H a = some (.lst vs) ∧ RpAll K F vs (xs.map toD) ∧ F a = none ∧ H0 a = none ∧ (i, SV.ow (toD xs)) ∈ ρ := by
  have hm := List.mem_of_getElem? h
  obtain ⟨a, ea, c, z⟩ := R.ow i _ hm
  obtain ⟨zf, ⟨vs, ds, e1, r, e2⟩ | ⟨_, _, _, _, e2⟩ | ⟨_, _, _, _, e2⟩⟩ := c
  · cases e2
    exact ⟨a, vs, ea, e1, r, zf, z, hm⟩
  · cases e2
  · cases e2
/-- xs.append(e), xs a slot's own list -/
theorem XB.append (k i : Nat) (ks : List Nat) {nm : Str} {e : Expr} {p1 p2 p3 : Pos} {xs : List α} {rest : List Stmt} {me : Res α} {mr : List α → Res τ} {fin : τ → Fi} (ρ' : List α → Rs) (hk : ρ[k]? = some (i, SV.ow (toD xs))) (he : XV X W ρ e me) (hr : ∀ ys, XB X W (ρ' ys) rest (mr ys) fin)
    (hρ : ∀ ys, ρ' ys = (i, SV.ow (toD ys)) :: keepAt ρ ks := by intro _; rfl) (ho : okK ρ [i] ks = true := by rfl) (hN : X.N[i]? = some nm := by rfl) (hv : Vis X.env.scope nm := by first | exact Or.inl rfl | exact Or.inr (Or.inl rfl) | exact Or.inr (Or.inr rfl))
    (hd : (nm == ("__debug__" : Str)) = false := by decide) (hcd : (nm == ("__classdict__" : Str)) = false := by decide) (hs : starEach [e] X.env = [(false, eval e X.env)] := by rfl)
    (hb : attributeBase (.Name nm p1) ("append" : Str) X.env (eval (.Name nm p1) X.env) = eval (.Name nm p1) X.env := by rfl) (hl : (p2.endLine == p3.line) = true := by rfl) (hsw : swapsWith (.Call (.Attribute (.Name nm p1) ("append" : Str) p2) [e] [] p3) none pos.line X.env = pure false := by rfl) :
    XB X W ρ (.Expr (.Call (.Attribute (.Name nm p1) ("append" : Str) p2) [e] [] p3) pos :: rest) (do
    let y ← me
    let ys ← pushL xs y
    mr ys) fin := by
  refine PSs.imp (pss_cons (ps_expr (pe_bm PySem.F.plainAttrs_list PySem.F.slot_list_append PySem.F.type_list_append mt_append (pe_var hN hv hd hcd) (pa_cons he pa_nil hs) (hline := hl) (hfew := by rw [hs]; rfl) (hs := hs)) hsw) (PSs.ex hr)) fun D σ H ⟨F0, H0, F, R, p⟩ => ?_
  obtain ⟨a, vs, ea, e1, r, zf, z, hm⟩ := own_get R hk
  refine ⟨.ref a, ea, .inl ⟨rfl, vs, .inl (.inl e1)⟩, F0, H0, F, R, ?_⟩
  have q := PostS.bind R p
  cases me with
  | exc c i => exact q
  | stuck => exact q
  | ok y =>
    intro v F1 H1 g rv
    have p1 : PostS X.K X.N.length W F0 H0 F (pushL xs y >>= mr) fin D := p
    unfold pushL mkL at p1
    split at p1
    · rename_i hlen
      have e1' := g.h _ _ e1
      have zf' : F1 a = none := by rw [g.fn a (by rw [e1]; exact .lst)]; exact zf
      refine ⟨a, vs, v, rfl, rfl, e1', ?_, xs ++ [y], F0, H0, F1, ?_, PostS.sub g.f p1⟩
      · have h2 := r.length
        rw [List.length_map] at h2
        rw [List.length_append, List.length_singleton] at hlen
        rw [h2, ← lim_line]; omega
      · refine (R.grow g).mut hm ea (o := .lst (vs ++ [v])) ⟨zf', .inl ⟨vs ++ [v], _, upd_same, (r.sub g.f).append (.cons rv .nil), ?_⟩⟩ (by rw [hρ]; exact put_w ho)
        show toD (xs ++ [y]) = .list _
        rw [show (xs.map toD ++ [toD y]) = (xs ++ [y]).map toD by simp]; rfl
    · exact p1.elim
/-- xs[i] = e, xs a slot's own list -/
theorem XB.setIdx (k i : Nat) (ks : List Nat) {nm : Str} {e ix : Expr} {p1 p2 : Pos} {xs : List α} {rest : List Stmt} {me : Res α} {mi : Res Int} {mr : List α → Res τ} {fin : τ → Fi} (ρ' : List α → Rs) (hk : ρ[k]? = some (i, SV.ow (toD xs))) (he : XV X W ρ e me) (hi : XV X W ρ ix mi) (hr : ∀ ys, XB X W (ρ' ys) rest (mr ys) fin)
    (hρ : ∀ ys, ρ' ys = (i, SV.ow (toD ys)) :: keepAt ρ ks := by intro _; rfl) (ho : okK ρ [i] ks = true := by rfl) (hN : X.N[i]? = some nm := by rfl) (hv : Vis X.env.scope nm := by first | exact Or.inl rfl | exact Or.inr (Or.inl rfl) | exact Or.inr (Or.inr rfl))
    (hd : (nm == ("__debug__" : Str)) = false := by decide) (hcd : (nm == ("__classdict__" : Str)) = false := by decide)
    (ha : ∀ v, assign (.Subscript (.Name nm p1) ix p2) X.env v = (do
      let ov ← holding [v] (eval (.Name nm p1) X.env)
      let iv ← holding [v, ov] (eval ix X.env)
      standAt p2
      holding [v, ov, iv] (setItem ov iv v)
      release [v, ov, iv] []) := by intro _; rfl)
    (hs : swapsWithSole [.Subscript (.Name nm p1) ix p2] e pos.line X.env = pure false := by rfl) (hw : swappedStores [.Subscript (.Name nm p1) ix p2] e X.env = pure none := by rfl)
    (h1 : (assignEach [.Subscript (.Name nm p1) ix p2] X.env).map (·.2) = [assign (.Subscript (.Name nm p1) ix p2) X.env] := by rfl) :
    XB X W ρ (.Assign [.Subscript (.Name nm p1) ix p2] e pos :: rest) (do
    let y ← me
    let j ← mi
    let ys ← setL xs j y
    mr ys) fin := by
  refine PSs.imp (pss_cons (ps_asg he (pg_sub (pe_var hN hv hd hcd) hi set_list ha) hs hw h1) (PSs.ex hr)) fun D σ H ⟨F0, H0, F, R, p⟩ => ⟨F0, H0, F, R, ?_⟩
  obtain ⟨a, vs, ea, e1, r, zf, z, hm⟩ := own_get R hk
  have q := PostS.bind R p
  cases me with
  | exc c i => exact q
  | stuck => exact q
  | ok y =>
    intro v F1 H1 g rv
    refine ⟨.ref a, ea, F0, H0, F1, R.grow g, ?_⟩
    have p1 : PostS X.K X.N.length W F0 H0 F1 (mi >>= fun j => setL xs j y >>= mr) fin D := PostS.sub g.f p
    have q1 := PostS.bind (R.grow g) p1
    cases mi with
    | exc c i => exact q1
    | stuck => exact q1
    | ok j =>
      intro u F2 H2 g2 ru
      have p2 : PostS X.K X.N.length W F0 H0 F2 (setL xs j y >>= mr) fin D := PostS.sub g2.f p1
      unfold setL at p2
      cases ei : idx xs.length j with
      | none => rw [ei] at p2; exact p2.elim
      | some m =>
        rw [ei] at p2
        have gg := g.trans g2
        have hl := r.length
        rw [List.length_map] at hl
        have zf' : F2 a = none := by rw [gg.fn a (by rw [e1]; exact .lst)]; exact zf
        refine ⟨a, vs, j, m, rfl, ru.int_of, gg.h _ _ e1, by rw [hl]; exact ei, xs.set m y, F0, H0, F2, ?_, p2⟩
        refine (R.grow gg).mut hm ea (o := .lst (vs.set m v)) ⟨zf', .inl ⟨vs.set m v, _, upd_same, RpAll.set (rv.sub g2.f) m (r.sub gg.f), ?_⟩⟩ (by rw [hρ]; exact put_w ho)
        show toD (xs.set m y) = .list _
        rw [← List.map_set]; rfl

/-! ### if -/
/-- if c: A (both ways end the block's own way) -/
theorem XB.ite {c : Expr} {A B : List Stmt} {mc : Res Bool} {mA mB : Res τ} {fin : τ → Fi} (hc : XT X W ρ c mc) (hA : XB X W ρ A mA fin) (hB : XB X W ρ B mB fin) : XB X W ρ [.If c A B pos] (do
    let b ← mc
    if b then mA else mB) fin := by
  refine PSs.imp (pss_one (ps_if hc hA hB)) fun D σ H ⟨F0, H0, F, R, p⟩ => ⟨F0, H0, F, R, ?_⟩
  have q := PostS.bindT R p
  cases mc with
  | exc c i => exact q
  | stuck => exact q
  | ok b =>
    intro F1 H1 g
    have p1 := PostS.sub g.f p
    cases b with
    | true => exact ⟨F0, H0, F1, R.grow g, p1⟩
    | false => exact ⟨F0, H0, F1, R.grow g, p1⟩
/-- if c: A, A leaves the block; then the rest -/
theorem XB.ifR {c : Expr} {A rest : List Stmt} {mc : Res Bool} {mA mr : Res τ} {fin : τ → Fi} (hc : XT X W ρ c mc) (hA : XB X W ρ A mA fin) (hr : XB X W ρ rest mr fin) (hx : ∀ t, mA = .ok t → ∀ ρ', fin t ≠ .nx ρ') : XB X W ρ (.If c A [] pos :: rest) (do
    let b ← mc
    if b then mA else mr) fin := by
  refine PSs.imp (pss_cons (ps_if hc hA pss_nil) hr) fun D σ H ⟨F0, H0, F, R, p⟩ => ⟨F0, H0, F, R, ?_⟩
  have q := PostS.bindT R p
  cases mc with
  | exc c i => exact q
  | stuck => exact q
  | ok b =>
    intro F1 H1 g
    have p1 := PostS.sub g.f p
    cases b with
    | false => exact ⟨F0, H0, F1, R.grow g, p1⟩
    | true =>
      refine ⟨F0, H0, F1, R.grow g, ?_⟩
      have p2 : PostS X.K X.N.length W F0 H0 F1 mA fin D := p1
      cases mA with
      | exc c i => exact p2
      | stuck => exact p2
      | ok t =>
        have p' : (match fin t with
          | .nx ρ' => ∀ σ' F' H', Rho X.K X.N.length F0 H0 F' H' σ' ρ' → Sub F1 F' → D.nx σ' H'
          | .rt d => ∀ v F' H', Grow F0 H0 F' H' → Rp X.K F' v d → D.rt v H'
          | .bk ρ' => ∀ σ' F' H', Rho X.K X.N.length F0 H0 F' H' σ' ρ' → Sub F1 F' → D.bk σ' H') := p2
        show (match fin t with
          | .nx ρ' => ∀ σ' F' H', Rho X.K X.N.length F0 H0 F' H' σ' ρ' → Sub F1 F' → rdS X.K X.N.length W ρ mr fin D σ' H'
          | .rt d => ∀ v F' H', Grow F0 H0 F' H' → Rp X.K F' v d → D.rt v H'
          | .bk ρ' => ∀ σ' F' H', Rho X.K X.N.length F0 H0 F' H' σ' ρ' → Sub F1 F' → D.bk σ' H')
        cases ef : fin t with
        | nx ρ' => exact absurd ef (hx t rfl ρ')
        | rt d => rw [ef] at p'; exact p'
        | bk ρ' => rw [ef] at p'; exact p'
/-- if c: A else: B, both go on; then the rest -/
theorem XB.ifN {c : Expr} {A B rest : List Stmt} {mc : Res Bool} {mA mB : Res S} {mr : S → Res τ} {fin : τ → Fi} (ρj : S → Rs) (hc : XT X W ρ c mc) (hA : XB X W ρ A mA fun s => .nx (ρj s)) (hB : XB X W ρ B mB fun s => .nx (ρj s)) (hr : ∀ s, XB X W (ρj s) rest (mr s) fin) :
    XB X W ρ (.If c A B pos :: rest) (mc >>= fun b => (if b then mA else mB) >>= fun s => mr s) fin := by
  refine PSs.imp (pss_cons (ps_if hc hA hB) (PSs.ex hr)) fun D σ H ⟨F0, H0, F, R, p⟩ => ⟨F0, H0, F, R, ?_⟩
  have q := PostS.bindT R p
  have go : ∀ {m : Res S} {F1 H1}, Grow F H F1 H1 → PostS X.K X.N.length W F0 H0 F1 (m >>= mr) fin D → PostS X.K X.N.length W F0 H0 F1 m (fun s => .nx (ρj s)) { D with nx := fun σ' H' => ∃ s, rdS X.K X.N.length W (ρj s) (mr s) fin D σ' H' } := fun {m F1 H1} g p => by
    cases m with
    | exc c i => exact p
    | stuck => exact p
    | ok s => exact fun σ' F' H' R' sf => ⟨s, F0, H0, F', R', PostS.sub sf p⟩
  cases mc with
  | exc c i => exact q
  | stuck => exact q
  | ok b =>
    intro F1 H1 g
    have p1 := PostS.sub g.f p
    cases b with
    | true => exact ⟨F0, H0, F1, R.grow g, go g p1⟩
    | false => exact ⟨F0, H0, F1, R.grow g, go g p1⟩
def finC (ω : Ω → Fi) (ρj : S → Rs) : Ctl Ω S → Fi
  | .ex o => ω o
  | .nx s => .nx (ρj s)
/-- what follows a block that may leave -/
def thenC {τ : Type} (exit : Ω → Res τ) (k : S → Res τ) : Ctl Ω S → Res τ
  | .ex o => exit o
  | .nx s => k s
/-- how a block that may leave ends within one whose ends are fin -/
theorem post_mix {K : PySem.W.Frag} {n : Nat} {F0 H0 F : Hp} {m : Res (Ctl Ω S)} {ω : Ω → Fi} {ρj : S → Rs} {exit : Ω → τ} {mr : S → Res τ} {fin : τ → Fi} {D : Ends} {G : S → TS} (he : ∀ o, fin (exit o) = ω o) (hω : ∀ o ρ', ω o ≠ .nx ρ')
    (hG : ∀ s σ' F' H', Rho K n F0 H0 F' H' σ' (ρj s) → PostS K n W F0 H0 F' (mr s) fin D → G s D σ' H') (p : PostS K n W F0 H0 F (m >>= thenC (fun o => .ok (exit o)) mr) fin D) : PostS K n W F0 H0 F m (finC ω ρj) { D with nx := fun σ' H' => ∃ s, G s D σ' H' } := by
  cases m with
  | exc c i => exact p
  | stuck => exact p
  | ok t => cases t with
    | nx s => exact fun σ' F' H' R' sf => ⟨s, hG s σ' F' H' R' (PostS.sub sf p)⟩
    | ex o =>
      have p' : (match fin (exit o) with
        | .nx ρ' => ∀ σ' F' H', Rho K n F0 H0 F' H' σ' ρ' → Sub F F' → D.nx σ' H'
        | .rt d => ∀ v F' H', Grow F0 H0 F' H' → Rp K F' v d → D.rt v H'
        | .bk ρ' => ∀ σ' F' H', Rho K n F0 H0 F' H' σ' ρ' → Sub F F' → D.bk σ' H') := p
      show (match ω o with
        | .nx ρ' => ∀ σ' F' H', Rho K n F0 H0 F' H' σ' ρ' → Sub F F' → ∃ s, G s D σ' H'
        | .rt d => ∀ v F' H', Grow F0 H0 F' H' → Rp K F' v d → D.rt v H'
        | .bk ρ' => ∀ σ' F' H', Rho K n F0 H0 F' H' σ' ρ' → Sub F F' → D.bk σ' H')
      rw [he o] at p'
      cases ew : ω o with
      | nx ρ' => exact absurd ew (hω o ρ')
      | rt d => rw [ew] at p'; exact p'
      | bk ρ' => rw [ew] at p'; exact p'
/-- if c: A else: B, some ways leave the block -/
theorem XB.ifC {c : Expr} {A B rest : List Stmt} {mc : Res Bool} {mA mB : Res (Ctl Ω S)} {mr : S → Res τ} {fin : τ → Fi} {ω : Ω → Fi} (exit : Ω → τ) (ρj : S → Rs) (he : ∀ o, fin (exit o) = ω o) (hω : ∀ o ρ', ω o ≠ .nx ρ') (hc : XT X W ρ c mc) (hA : XB X W ρ A mA (finC ω ρj)) (hB : XB X W ρ B mB (finC ω ρj)) (hr : ∀ s, XB X W (ρj s) rest (mr s) fin) :
    XB X W ρ (.If c A B pos :: rest) (mc >>= fun b => (if b then mA else mB) >>= fun t => thenC (fun o => .ok (exit o)) mr t) fin := by
  refine PSs.imp (pss_cons (ps_if hc hA hB) (PSs.ex hr)) fun D σ H ⟨F0, H0, F, R, p⟩ => ⟨F0, H0, F, R, ?_⟩
  have q := PostS.bindT R p
  have hG : ∀ s σ' F' H', Rho X.K X.N.length F0 H0 F' H' σ' (ρj s) → PostS X.K X.N.length W F0 H0 F' (mr s) fin D → rdS X.K X.N.length W (ρj s) (mr s) fin D σ' H' := fun s σ' F' H' R' p => ⟨F0, H0, F', R', p⟩
  cases mc with
  | exc c i => exact q
  | stuck => exact q
  | ok b =>
    intro F1 H1 g
    have p1 := PostS.sub g.f p
    cases b with
    | true => exact ⟨F0, H0, F1, R.grow g, post_mix (G := fun s => rdS X.K X.N.length W (ρj s) (mr s) fin) he hω hG p1⟩
    | false => exact ⟨F0, H0, F1, R.grow g, post_mix (G := fun s => rdS X.K X.N.length W (ρj s) (mr s) fin) he hω hG p1⟩

/-! ### for -/
theorem drop_cons {xs : List α} {i : Nat} {x : α} (h : xs[i]? = some x) : xs.drop i = x :: xs.drop (i + 1) := by
  obtain ⟨hl, e⟩ := List.getElem?_eq_some_iff.mp h
  rw [List.drop_eq_getElem_cons hl, e]
theorem XB.forC {tg iter : Expr} {body rest : List Stmt} {is : List Nat} {mi : Res (List α)} {s0 : S} {mb : S → α → Res (Ctl Ω S)} {mr : S → Res τ} {fin : τ → Fi} {ω : Ω → Fi} (exit : Ω → τ) (ρh : S → Rs) (ρb : S → α → Rs) (hp : PassesOwn (model X.prog X.w) X.A X.env X.xe) (hc : X.calm = true)
    (he : ∀ o, fin (exit o) = ω o) (hω : ∀ o ρ', ω o ≠ .nx ρ') (hωb : ∀ o ρ', ω o ≠ .bk ρ') (hi : XI X W ρ tg iter mi) (hg : ∀ s x, XG X is (ρh s) tg (toD x) (ρb s x)) (hb : ∀ s x, XB X W (ρb s x) body (mb s x) (finC ω ρh)) (h0 : ∀ p ∈ ρh s0, p ∈ ρ)
    (hr : ∀ s, XB X W (ρh s) rest (mr s) fin) (hs : ∀ x, foldedSetIterable iter X.env x = pure x := by intro _; rfl) :
    XB X W ρ (.For tg iter body [] pos :: rest) (do
    let xs ← mi
    let t ← foldC mb xs s0
    thenC (fun o => .ok (exit o)) mr t) fin := by
  refine PSs.imp (pss_cons (ps_for hp hc hi (PG.ex fun s => PG.ex fun x => hg s x) (PSs.ex fun s => PSs.ex fun x => hb s x) hs) (PSs.ex hr)) fun D σ H ⟨F0, H0, F, R, p⟩ => ⟨F0, H0, F, R, ?_⟩
  cases mi with
  | exc c i => exact excG R.base p
  | stuck => exact p
  | ok xs =>
    intro J F1 H1 g it hz
    have p1 : PostS X.K X.N.length W F0 H0 F1 (foldC mb xs s0 >>= thenC (fun o => .ok (exit o)) mr) fin D := PostS.sub g.f p
    refine ⟨fun i m σ' H' => ∃ F' s, m = xs.length - i ∧ i ≤ xs.length ∧ Rho X.K X.N.length F0 H0 F' H' σ' (ρh s) ∧ Sub F1 F' ∧ PostS X.K X.N.length W F0 H0 F' (foldC mb (xs.drop i) s >>= thenC (fun o => .ok (exit o)) mr) fin D,
      ⟨xs.length, F1, s0, by simp, Nat.zero_le _, (R.grow g).weak h0, fun _ _ e => e, p1⟩, ?_⟩
    rintro i m σ2 H2 ⟨F2, s, rfl, hi2, R2, sf, p2⟩
    by_cases hlt : i < xs.length
    · have ex : xs[i]? = some xs[i] := List.getElem?_eq_getElem hlt
      rw [drop_cons ex] at p2
      refine .inr ⟨it.go i F2 H2 sf R2.fh (by simpa using hlt), fun σ' H' => ∃ F' s', Rho X.K X.N.length F0 H0 F' H' σ' (ρh s') ∧ Sub F1 F' ∧ PostS X.K X.N.length W F0 H0 F' (foldC mb (xs.drop (i + 1)) s' >>= thenC (fun o => .ok (exit o)) mr) fin D,
        fun σ' H' ⟨F', s', R', sf', p'⟩ => ⟨xs.length - (i + 1), by omega, F', s', rfl, hlt, R', sf', p'⟩, fun v H3 y => ?_⟩
      obtain ⟨F3, g3, r3⟩ := it.yld i F2 H2 (toD xs[i]) v H3 sf R2.fh (by rw [List.getElem?_map, ex]; rfl) y
      refine ⟨s, xs[i], F0, H0, F3, R2.grow g3, r3, fun σ4 R4 _ => ⟨s, xs[i], F0, H0, F3, R4, ?_⟩⟩
      have p3 : PostS X.K X.N.length W F0 H0 F3 ((mb s xs[i] >>= thenC (fun o => .ok (.ex o)) (foldC mb (xs.drop (i + 1)))) >>= thenC (fun o => .ok (exit o)) mr) fin D := by
        have q := PostS.sub g3.f p2
        have e : foldC mb (xs[i] :: xs.drop (i + 1)) s = (mb s xs[i] >>= thenC (fun o => .ok (.ex o)) (foldC mb (xs.drop (i + 1)))) := by
          show (mb s xs[i] >>= fun t => _) = _
          cases mb s xs[i] with
          | ok t => cases t <;> rfl
          | exc c i => rfl
          | stuck => rfl
        rw [e] at q
        exact q
      cases eb : mb s xs[i] with
      | exc c i => rw [eb] at p3; exact p3
      | stuck => rw [eb] at p3; exact p3
      | ok t => cases t with
        | nx s' =>
          rw [eb] at p3
          exact fun σ' F' H' R' sf' => ⟨F', s', R', (sf.trans g3.f).trans sf', PostS.sub sf' p3⟩
        | ex o =>
          rw [eb] at p3
          have p' : (match fin (exit o) with
            | .nx ρ' => ∀ σ' F' H', Rho X.K X.N.length F0 H0 F' H' σ' ρ' → Sub F3 F' → D.nx σ' H'
            | .rt d => ∀ v F' H', Grow F0 H0 F' H' → Rp X.K F' v d → D.rt v H'
            | .bk ρ' => ∀ σ' F' H', Rho X.K X.N.length F0 H0 F' H' σ' ρ' → Sub F3 F' → D.bk σ' H') := p3
          rw [he o] at p'
          have ht : ∀ (D' : Ends), D'.rt = D.rt → (match ω o with
            | .nx ρ' => ∀ σ' F' H', Rho X.K X.N.length F0 H0 F' H' σ' ρ' → Sub F3 F' → D'.nx σ' H'
            | .rt d => ∀ v F' H', Grow F0 H0 F' H' → Rp X.K F' v d → D'.rt v H'
            | .bk ρ' => ∀ σ' F' H', Rho X.K X.N.length F0 H0 F' H' σ' ρ' → Sub F3 F' → D'.bk σ' H') := fun D' e => by
            cases ew : ω o with
            | nx ρ' => exact absurd ew (hω o ρ')
            | rt d => rw [ew] at p'; rw [e]; exact p'
            | bk ρ' => exact absurd ew (hωb o ρ')
          exact ht _ rfl
    · have e : i = xs.length := by omega
      subst e
      refine .inl ⟨it.stop _ F2 H2 sf R2.fh (by simp), s, F0, H0, F2, R2, ?_⟩
      rw [List.drop_length] at p2
      exact p2
theorem foldC_nx {mb : S → α → Res S} : ∀ (xs : List α) (s : S), foldC (Ω := Empty) (fun s x => (mb s x).map .nx) xs s = (foldR mb xs s).map .nx
  | [], s => rfl
  | x :: xs, s => by
    show ((mb s x).map Ctl.nx >>= fun t => _) = ((mb s x >>= fun s' => foldR mb xs s').map Ctl.nx)
    cases mb s x with
    | ok s' => exact foldC_nx xs s'
    | exc c i => rfl
    | stuck => rfl
theorem XB.map_fin {sts : List Stmt} {m : Res S} {fin : τ → Fi} {f : S → τ} (h : XB X W ρ sts m (fun s => fin (f s))) : XB X W ρ sts (m.map f) fin := PSs.imp h fun D σ H ⟨F0, H0, F, R, p⟩ => ⟨F0, H0, F, R, by cases m <;> exact p⟩
/-- the body goes on always -/
theorem XB.forS {tg iter : Expr} {body rest : List Stmt} {is : List Nat} {mi : Res (List α)} {s0 : S} {mb : S → α → Res S} {mr : S → Res τ} {fin : τ → Fi} (ρh : S → Rs) (ρb : S → α → Rs) (hp : PassesOwn (model X.prog X.w) X.A X.env X.xe) (hc : X.calm = true)
    (hi : XI X W ρ tg iter mi) (hg : ∀ s x, XG X is (ρh s) tg (toD x) (ρb s x)) (hb : ∀ s x, XB X W (ρb s x) body (mb s x) fun s' => .nx (ρh s')) (h0 : ∀ p ∈ ρh s0, p ∈ ρ)
    (hr : ∀ s, XB X W (ρh s) rest (mr s) fin) (hs : ∀ x, foldedSetIterable iter X.env x = pure x := by intro _; rfl) :
    XB X W ρ (.For tg iter body [] pos :: rest) (do
    let xs ← mi
    let s ← foldR mb xs s0
    mr s) fin := by
  refine (XB.forC (Ω := Empty) (ω := fun o => nomatch o) (mb := fun s x => (mb s x).map .nx) (fun o => nomatch o) ρh ρb hp hc (fun o => nomatch o) (fun o => nomatch o) (fun o => nomatch o) hi hg (fun s x => XB.map_fin (hb s x)) h0 hr hs).eq ?_
  cases mi with
  | exc c i => rfl
  | stuck => rfl
  | ok xs =>
    show (foldR mb xs s0 >>= mr) = (foldC (fun s x => (mb s x).map .nx) xs s0 >>= _)
    rw [foldC_nx]
    cases foldR mb xs s0 <;> rfl
/-- the body may leave by break -/
inductive Brk (Ω S : Type) where
  | ex (o : Ω)
  | nx (s : S)
  | bk (s : S)

/-! ### while -/
theorem XB.whileG {c : Expr} {body rest : List Stmt} {s0 : S} {mc : S → Res Bool} {mb : S → Res (Ctl Ω S)} {mr : S → Res τ} {fin : τ → Fi} {ω : Ω → Fi} (exit : Ω → τ) (ρh : S → Rs) (hp : PassesOwn (model X.prog X.w) X.A X.env X.xe)
    (he : ∀ o, fin (exit o) = ω o) (hω : ∀ o ρ', ω o ≠ .nx ρ') (hωb : ∀ o ρ', ω o ≠ .bk ρ') (hc : ∀ s, XT X W (ρh s) c (mc s)) (hb : ∀ s, XB X W (ρh s) body (mb s) (finC ω ρh)) (h0 : ∀ p ∈ ρh s0, p ∈ ρ) (hr : ∀ s, XB X W (ρh s) rest (mr s) fin) (n : Nat) :
    XB X W ρ (.While c body [] pos :: rest) (do
    let t ← whileNC mc mb n s0
    thenC (fun o => .ok (exit o)) mr t) fin := by
  refine PSs.imp (pss_cons (ps_while hp (PT.ex hc) (PSs.ex hb)) (PSs.ex hr)) fun D σ H ⟨F0, H0, F, R, p⟩ => ?_
  refine ⟨fun m σ' H' => ∃ F' s, Rho X.K X.N.length F0 H0 F' H' σ' (ρh s) ∧ PostS X.K X.N.length W F0 H0 F' (whileNC mc mb m s >>= thenC (fun o => .ok (exit o)) mr) fin D, ⟨n, F, s0, R.weak h0, p⟩, ?_⟩
  rintro m σ2 H2 ⟨F2, s, R2, p2⟩
  cases m with
  | zero => exact p2.elim
  | succ m =>
    refine ⟨s, F0, H0, F2, R2, ?_⟩
    have p3 : PostS X.K X.N.length W F0 H0 F2 (mc s >>= fun k => ((if k then mb s >>= thenC (fun o => .ok (.ex o)) (whileNC mc mb m) else .ok (.nx s)) >>= thenC (fun o => .ok (exit o)) mr)) fin D := by
      have e : (whileNC mc mb (m + 1) s >>= thenC (fun o => .ok (exit o)) mr) = (mc s >>= fun k => ((if k then mb s >>= thenC (fun o => .ok (.ex o)) (whileNC mc mb m) else .ok (.nx s)) >>= thenC (fun o => .ok (exit o)) mr)) := by
        show ((mc s >>= fun k => _) >>= _) = _
        cases mc s with
        | exc c i => rfl
        | stuck => rfl
        | ok k => cases k with
          | false => rfl
          | true =>
            show ((mb s >>= fun t => _) >>= _) = ((mb s >>= _) >>= _)
            cases mb s with
            | exc c i => rfl
            | stuck => rfl
            | ok t => cases t <;> rfl
      rw [e] at p2
      exact p2
    have q := PostS.bindT R2 p3
    cases ec : mc s with
    | exc c i => rw [ec] at q; exact q
    | stuck => rw [ec] at q; exact q
    | ok k =>
      rw [ec] at p3
      intro F3 H3 g3
      have p4 := PostS.sub g3.f p3
      cases k with
      | false => exact ⟨s, F0, H0, F3, R2.grow g3, p4⟩
      | true =>
        refine ⟨fun σ' H' => ∃ F' s', Rho X.K X.N.length F0 H0 F' H' σ' (ρh s') ∧ PostS X.K X.N.length W F0 H0 F' (whileNC mc mb m s' >>= thenC (fun o => .ok (exit o)) mr) fin D, fun σ' H' ⟨F', s', R', p'⟩ => ⟨m, Nat.lt_succ_self m, F', s', R', p'⟩, s, F0, H0, F3, R2.grow g3, ?_⟩
        have p5 : PostS X.K X.N.length W F0 H0 F3 ((mb s >>= thenC (fun o => .ok (.ex o)) (whileNC mc mb m)) >>= thenC (fun o => .ok (exit o)) mr) fin D := p4
        cases eb : mb s with
        | exc c i => rw [eb] at p5; exact p5
        | stuck => rw [eb] at p5; exact p5
        | ok t => cases t with
          | nx s' =>
            rw [eb] at p5
            exact fun σ' F' H' R' sf' => ⟨F', s', R', PostS.sub sf' p5⟩
          | ex o =>
            rw [eb] at p5
            have p' : (match fin (exit o) with
              | .nx ρ' => ∀ σ' F' H', Rho X.K X.N.length F0 H0 F' H' σ' ρ' → Sub F3 F' → D.nx σ' H'
              | .rt d => ∀ v F' H', Grow F0 H0 F' H' → Rp X.K F' v d → D.rt v H'
              | .bk ρ' => ∀ σ' F' H', Rho X.K X.N.length F0 H0 F' H' σ' ρ' → Sub F3 F' → D.bk σ' H') := p5
            rw [he o] at p'
            have ht : ∀ (D' : Ends), D'.rt = D.rt → (match ω o with
              | .nx ρ' => ∀ σ' F' H', Rho X.K X.N.length F0 H0 F' H' σ' ρ' → Sub F3 F' → D'.nx σ' H'
              | .rt d => ∀ v F' H', Grow F0 H0 F' H' → Rp X.K F' v d → D'.rt v H'
              | .bk ρ' => ∀ σ' F' H', Rho X.K X.N.length F0 H0 F' H' σ' ρ' → Sub F3 F' → D'.bk σ' H') := fun D' e => by
              cases ew : ω o with
              | nx ρ' => exact absurd ew (hω o ρ')
              | rt d => rw [ew] at p'; rw [e]; exact p'
              | bk ρ' => exact absurd ew (hωb o ρ')
            exact ht _ rfl
theorem whileNC_nx {mc : S → Res Bool} {mb : S → Res S} : ∀ (n : Nat) (s : S), whileNC (Ω := Empty) mc (fun s => (mb s).map .nx) n s = (whileN mc mb n s).map .nx
  | 0, s => rfl
  | n + 1, s => by
    show (mc s >>= fun k => _) = ((mc s >>= fun k => _).map Ctl.nx)
    cases mc s with
    | exc c i => rfl
    | stuck => rfl
    | ok k => cases k with
      | false => rfl
      | true =>
        show ((mb s).map Ctl.nx >>= fun t => _) = ((mb s >>= fun s' => whileN mc mb n s').map Ctl.nx)
        cases mb s with
        | exc c i => rfl
        | stuck => rfl
        | ok s' => exact whileNC_nx n s'
theorem XB.whileS {c : Expr} {body rest : List Stmt} {s0 : S} {mc : S → Res Bool} {mb : S → Res S} {mr : S → Res τ} {fin : τ → Fi} (ρh : S → Rs) (hp : PassesOwn (model X.prog X.w) X.A X.env X.xe)
    (hc : ∀ s, XT X W (ρh s) c (mc s)) (hb : ∀ s, XB X W (ρh s) body (mb s) fun s' => .nx (ρh s')) (h0 : ∀ p ∈ ρh s0, p ∈ ρ) (hr : ∀ s, XB X W (ρh s) rest (mr s) fin) :
    XB X W ρ (.While c body [] pos :: rest) (do
    let s ← whileR mc mb s0
    mr s) fin := by
  by_cases hx : whileR mc mb s0 = .stuck
  · rw [hx]
    refine ⟨fun pins s σ H D I ⟨F0, H0, F, R, p⟩ => p.elim⟩
  · obtain ⟨n, h1, h2⟩ := whileR_ne hx
    refine (XB.whileG (Ω := Empty) (ω := fun o => nomatch o) (mb := fun s => (mb s).map .nx) (fun o => nomatch o) ρh hp (fun o => nomatch o) (fun o => nomatch o) (fun o => nomatch o) hc (fun s => XB.map_fin (hb s)) h0 hr n).eq ?_
    rw [whileNC_nx, h2]
    cases whileN mc mb n s0 <;> rfl
end
end Vs
end
section
set_option Elab.async false
set_option linter.all false
set_option maxRecDepth 100000
set_option maxHeartbeats 1000000
/-! VsG: what a def promises where no repr is under way (repr of a list asks that). -/
namespace Vs
open Enc (toD)
open PySem PySem.Spec PyProof.Rows L2

structure GRoom (k : Nat) (A : Around) : Prop where
  r : Room k A
  g : A.guards = some []
theorem GRoom.mono {j k : Nat} {A : Around} (r : GRoom k A) (h : j ≤ k) : GRoom j A := ⟨r.r.mono h, r.g⟩
theorem GRoom.deeper {k : Nat} {A : Around} (r : GRoom (k + 1) A) (env : Env) : GRoom k (A.deeper env) := ⟨r.r.deeper env, r.g⟩
/-- as FnOk -/
structure FnG (P : Program) (w : World) (K : PySem.W.Frag) (mg : Str → Option Value) (base : Heap) (CX : CXT) (k : Nat) (f : Addr) (fd : FuncData) (ps : List Str) (sp : Sp) : Prop where
  len : ∀ vs H Q E, sp vs H Q E → vs.length = ps.length
  run : ∀ (A : Around) (outer : List Env) (s : Shared) (H : Hp) (args : Args) (us : List Value) (vs : List V) (Q : VK) (E : XK), GRoom k A → Env0 P w K mg base A outer s H → BindsTo s fd args (ps.zip us) → Vals vs us → sp vs H Q E → codeAny (model P w) A (.call (.ref f) args) (CR CX outer P w H s Q E) s
theorem FnG.mono {P : Program} {w : World} {K : PySem.W.Frag} {mg : Str → Option Value} {base : Heap} {CX : CXT} {j k : Nat} {f : Addr} {fd : FuncData} {ps : List Str} {sp : Sp} (F : FnG P w K mg base CX j f fd ps sp) (h : j ≤ k) : FnG P w K mg base CX k f fd ps sp :=
  ⟨F.len, fun A outer s H args us vs Q E r => F.run A outer s H args us vs Q E (r.mono h)⟩
/-- a def, by its body -/
theorem FnG.of {P : Program} {w : World} {K : PySem.W.Frag} {mg : Str → Option Value} {base : Heap} {x qual : Str} {params : Arguments} {body : List Stmt} {scope : Scope} {dvs : List V} {kws : List (Str × V)} {f : Addr} {fd : FuncData} {CX : CXT} {N ps : List Str} {k : Nat} {sp : Sp}
    (F : FunD K x qual params body scope dvs kws f fd) (S : FnScope N ps scope) (len : ∀ vs H Q E, sp vs H Q E → vs.length = ps.length)
    (hbody : ∀ (cdv : Value) (A : Around) (outer : List Env) (s : Shared) (H : Hp) (vs : List V) (Q : VK) (E : XK), GRoom k (A.deeper (envOfC qual scope s.heap.objs.size f cdv)) → sp vs H Q E →
      ∃ t, PSs (cxOf CX P w K mg base N qual scope f cdv A outer s H E) body t ∧ t { nx := fun _ H' => Q .non H', rt := Q } (L2.start N vs) H) : FnG P w K mg base CX (k + 1) f fd ps sp := by
  have ⟨oc, od, dV, kV, doc, pm, an, cdv, ct, osl, eqf, lk, hcd, _, _⟩ := F.ex; subst eqf
  refine ⟨len, fun A outer s H args us vs Q E gr ent hb rv hP => ?_⟩
  have hlen := len vs H Q E hP
  have inK : K.In s.heap := ent.mod.kin.keeps fun b o q => (ent.bs b o q).1
  have noL : s.heap.NoLimit := ent.mod.nolimit.keeps fun b o q => (ent.bs b o q).1
  have kinds : ∀ y ∈ ps.zip us, scope.names.lookup y.1 = some .local ∨ (scope.names.lookup y.1 = some .cell ∧ ((cellsFrom (s.heap.objs.size + 1) scope.names []).lookup y.1).isSome = true) := fun y hy =>
    (S.par y.1 (List.of_mem_zip (show (y.1, y.2) ∈ ps.zip us from hy)).1).imp id fun q => ⟨q, PySem.W.cellsFrom_some _ _ _ (.inl q)⟩
  refine codeAny_call_function gr.r.depth (inK _ _ lk) rfl S.co S.gen rfl (PySem.W.codeRec_of inK hcd) (hb _ _ _ _ (wpAny_newFunctionEnv_cells S.kind kinds fun env he s1 x => ?_))
  subst he
  refine ⟨noL.keeps x.toInCall.keep, codeAny_func ?_⟩
  obtain ⟨t, ht, hq⟩ := hbody cdv A outer s H vs Q E (gr.deeper _) hP
  have I : Inv (cxOf CX P w K mg base N qual scope f cdv A outer s H E) [] (L2.start N vs) H s1 := inv_start S gr.r.hd ent hlen rv x
  refine wpAny_mono (ht.run [] s1 (L2.start N vs) H _ I hq) (fun fl s' hs => ?_) fun _ _ hs => hs
  cases fl with
  | next =>
    obtain ⟨σ2, H2, J, q⟩ := hs
    exact ⟨V.non, H2, J.os, J.bare, J.base, J.hok, rfl, q⟩
  | ret u =>
    obtain ⟨v, σ2, H2, J, rv2, q⟩ := hs
    exact ⟨v, H2, J.os, J.bare, J.base, J.hok, rv2, q⟩
  | brk => exact hs.elim fun _ h => h.elim fun _ h => h.2.elim
  | cont => exact hs.elim fun _ h => h.elim fun _ h => h.2.elim
section
variable {X : Cx} {CX : CXT} {k : Nat} {f : Addr} {fd : FuncData} {ps : List Str} {sp : Sp} {E : XK} {x : Str} {p pos : Pos} {e : Expr} {es : List Expr} {t : TA}
theorem run_fnG {pins : List (Addr × Obj)} {σ : St} {H : Hp} {s : Shared} {Q : VK} {us : List Value} {vs : List V} (F : FnG X.prog X.w X.K X.mg X.base CX k f fd ps sp) (gr : GRoom k X.A) (hb : Binds X.K fd ps []) (hx : Passes CX X E)
    (I : Inv X pins σ H s) (rv : Vals vs us) (h : sp vs H Q E) : wpAny (model X.prog X.w) X.A (call (.ref f) us) (EP X pins σ Q) X.xe s := by
  have hl : (us ++ []).length = ps.length := by rw [List.append_nil, ← rv.length]; exact F.len _ _ _ _ h
  have b := hb s us I.kIn hl
  rw [List.append_nil] at b
  refine wpAny_call (codeAny_mono (F.run X.A X.stack s H ⟨us, []⟩ us vs Q E gr I.env0 b rv h) fun r s2 hq => ?_)
  match r, hq with
  | .error e, hq => exact hx pins σ H s e s2 I hq
  | .ok (.ret u), hq => exact I.after hq
theorem pe_callG (F : FnG X.prog X.w X.K X.mg X.base CX k f fd ps sp) (gr : GRoom k X.A) (hg : Gl X x) (hm : X.mg x = some (.ref f)) (hk : PySem.W.keepIn X.K (.ref f) = true) (hb : Binds X.K fd ps []) (hx : Passes CX X E)
    (ha : PA X (e :: es) t) (hdb : (x  == ("__debug__" : Str)) = false := by decide) (he : starEach (e :: es) X.env = (false, eval e X.env) :: starEach es X.env := by rfl) (hpl : (backTo pos (starEach es X.env)).any (·.1) = false := by rfl) :
    PE X (.Call (.Name x p) (e :: es) [] pos) (fun σ H Q => t σ H fun vs H1 => sp vs H1 Q E) :=
  ⟨fun pins s σ H Q I h => wpAny_Call_Name_kw (ld_glob I hg hm (PySem.W.callWith_K (h₀ := X.base) I.ok.mod.kin hk (thn (ha.run pos pins s σ H _ I h) fun us s1 ⟨vs, H1, I1, rv, q⟩ => ⟨I1.kIn, run_fnG F gr hb hx I1 rv q⟩) he hpl) hdb)⟩
theorem pe_call0G (F : FnG X.prog X.w X.K X.mg X.base CX k f fd ps sp) (gr : GRoom k X.A) (hg : Gl X x) (hm : X.mg x = some (.ref f)) (hk : PySem.W.keepIn X.K (.ref f) = true) (hb : Binds X.K fd ps []) (hx : Passes CX X E)
    (hdb : (x == ("__debug__" : Str)) = false := by decide) : PE X (.Call (.Name x p) [] [] pos) (fun σ H Q => sp [] H Q E) :=
  ⟨fun pins s σ H Q I h => wpAny_Call_Name_kw (ld_glob I hg hm (PySem.W.callWith_K0 I.kIn hk (run_fnG (us := []) F gr hb hx I .nil h)) hdb)⟩
end
/-- the law's call, from what its def promises there -/
theorem law_callG {P : Program} {w : World} {K : PySem.W.Frag} {mg mb : Str → Option Value} {CX : CXT} {k : Nat} {fa a : Addr} {fd : FuncData} {x : Str} {sp : Sp} {t1 : Shared} {vs : List Value} {ns : List Int}
    (KX : K.In t1.heap) (hns : t1.heap.Ns mainGlobals mg) (hb : t1.heap.Ns builtinsNs mb) (hbb : ∀ x : Str, x ≠ "__name__" → mb x = bootBuiltins x) (hlim : t1.heap.NoLimit) (hg : t1.gens = #[])
    (ha : t1.heap.get? a = some { cls := .type "list", data := .seq vs.toArray }) (hi : IntsAre vs ns) (hl : ns.length ≤ sizeLine) (gr : GRoom k callerA)
    (F : ∀ base : Heap, K.In base → base.Ns mainGlobals mg → FnG P w K mg base CX k fa fd [x] sp) (hbind : ∀ (s : Shared) (u : Value), BindsTo s fd ⟨[u], []⟩ [(x, u)])
    (hP : ∀ H : Hp, Only H → SqL K H a (ns.map V.int) → sp [.ref a] H (fun v _ => v = .bl true) fun _ _ _ => False) (hCX : ∀ H e s', CX [] H t1 (fun _ _ _ => False) e s' → False) :
    codeAny (model P w) callerA (.call (.ref fa) ⟨[.ref a], []⟩) (fun r s' => r = .ok (.ret (.bool true)) ∧ OldK t1.heap s'.heap ∧ s'.os = t1.os ∧ AllBare s'.gens) t1 := by
  have rv := vals_ints hi
  -- H holds the script at most
  have core : ∀ H : Hp, (∀ b, H b = none ∨ b = a ∧ K.lookup a = none ∧ ∃ o xs, H b = some (.frz o (.lst xs))) → SqL K H a (ns.map V.int) → HOk P w H t1.heap →
      codeAny (model P w) callerA (.call (.ref fa) ⟨[.ref a], []⟩) (fun r s' => r = .ok (.ret (.bool true)) ∧ OldK t1.heap s'.heap ∧ s'.os = t1.os ∧ AllBare s'.gens) t1 := by
    intro H hO hS hok
    have only : Only H := fun b => (hO b).imp id fun h => h.2.2
    have below : ∀ {b : Addr} {o : Obj}, t1.heap.get? b = some o → H b = none → (hidT t1.heap H).get? b = some o := fun e n => hidT_get e n
    have nsK : ∀ {b : Addr} {m : Str → Option Value}, t1.heap.Ns b m → (hidT t1.heap H).Ns b m := fun {b m} ⟨o, es, ep, e, d, r⟩ => by
      refine ⟨o, es, ep, below e ((hO b).elim id fun ⟨q, _⟩ => ?_), d, r⟩
      subst q
      rw [ha] at e; cases e; cases d
    have inK : K.In (hidT t1.heap H) := fun b o e => below (KX b o e) ((hO b).elim id fun ⟨q, n, _⟩ => by
      subst q
      rw [n] at e; cases e)
    have hM : Mod K mg (hidT t1.heap H) := ⟨inK, nsK hns, ⟨mb, nsK hb, hbb⟩, let ⟨mc, q1, q2⟩ := hlim; ⟨mc, nsK q1, q2⟩⟩
    have ent  : Env0 P w K mg (hidT t1.heap H) callerA [] t1 H := ⟨rfl, hM, fun b o e => of_hidT e, Nat.le_of_eq (hidT_size _ _), trivial, fun b hb => absurd (show b ∈ ([] : List Addr) from hb) (by simp), hok, .of_eq hg⟩
    refine codeAny_mono ((F _ inK (nsK hns)).run callerA [] t1 H ⟨[.ref a], []⟩ [.ref a] [.ref a] _ _ gr ent (hbind t1 (.ref a)) (.cons rfl .nil) (hP H only hS)) fun r s' h => ?_
    match r, h with
    | .error e, h => exact (hCX H e s' h).elim
    | .ok (.ret u), h =>
      obtain ⟨v, H', os, bare, un, hok2, r2, q⟩ := h
      have q' : v = .bl true := q
      subst q'
      obtain rfl : u = Value.bool true := r2
      refine ⟨rfl, OldK.of_keep fun b o e => ?_, os, bare⟩
      rcases hO b with z | ⟨_, _, ob, xs, z⟩
      · exact un.keep b o e z (by intro y; exact absurd (show b ∈ ([] : List Addr) from y) (by simp)) (by simp)
      · obtain ⟨e1, _⟩ := hok b _ z
        obtain ⟨e2, _⟩ := hok2 b _ (un.frzs b ob _ z)
        rw [e] at e1; cases e1
        exact e2
  cases hk : K.lookup a with
  | some o =>
    have e := KX a o hk
    rw [ha] at e; cases e
    exact core (fun _ => none) (fun _ => .inl rfl) (.inr ⟨_, vs.toArray, _, hk, rfl, rfl, rfl, by rw [List.size_toArray, hi.length]; exact hl, by simpa using rv⟩) fun b u z => nomatch (show (none : Option HO) = some u from z)
  | none =>
    refine core (fun b => if b = a then some (.frz { cls := .type "list", data := .seq vs.toArray } (.lst (ns.map V.int))) else none) (fun b => ?_) (.inl (.inr ⟨{ cls := .type "list", data := .seq vs.toArray }, if_pos rfl⟩)) fun b u z => ?_
    · by_cases hb : b = a
      · exact .inr ⟨hb, hk, _, _, if_pos hb⟩
      · exact .inl (if_neg hb)
    · by_cases hb : b = a
      · have z1 := (if_pos hb).symm.trans z
        cases z1
        subst hb
        exact ⟨ha, (by rw [List.length_map]; exact hl), vs, _, rv, ha⟩
      · have z1 := (if_neg hb).symm.trans z
        cases z1
/-- the end of a law's walk -/
theorem walk_ofG {l : PySem.W.OpenLaw} {n k : Nat} {q : Program} {loose : List Str} {XP : (Str → Option Value) → Heap → Prop} {YP : World → Heap → Prop} {d : DefRec} {CX : CXT} {x : Str}
    (hn : l.most = some n) (hn2 : n ≤ sizeLine) (hdf : d.params.defaults = []) (gr : GRoom k callerA)
    (F : ∀ (w : World) (mg : Str → Option Value) (fa : Addr) (h : Heap), YP w h → h.Ns mainGlobals mg → mg d.name = some (.ref fa) →
      ∃ (K : PySem.W.Frag) (fd : FuncData) (sp : Sp), K.In h ∧ (∀ (s : Shared) (u : Value), BindsTo s fd ⟨[u], []⟩ [(x, u)]) ∧ (∀ (H : Hp) (a : Addr) (ns : List Int), ns.length ≤ n → Only H → SqL K H a (ns.map V.int) → sp [.ref a] H (fun v _ => v = .bl true) fun _ _ _ => False) ∧
        ∀ base : Heap, K.In base → base.Ns mainGlobals mg → FnG l.prog w K mg base CX k fa fd [x] sp)
    (hCX : ∀ (H : Hp) (s : Shared) (e : Value) (s' : Shared), CX [] H s (fun _ _ _ => False) e s' → False) : PySem.W.WalkO q loose XP YP l.row.toRowW d [] (fun f vs => PySem.call f vs) := by
  refine Att.attach_call hn hdf fun w s₀ t1 mg mb fa o pm cd doc a vs ns G Y _ _ _ hmg hobj hints hlen hg => ?_
  obtain ⟨K, fd, sp, KX, hb, hP, hF⟩ := F w mg fa _ Y G.T.g hmg
  exact law_callG KX G.T.g G.T.b G.T.builtins G.T.nolimit hg hobj hints (Nat.le_trans hlen hn2) gr hF hb (fun H hO hS => hP H a ns hlen hO hS) fun H e s' => hCX H t1 e s'
end Vs
end
section
set_option Elab.async false
set_option linter.all false
set_option maxRecDepth 100000
set_option maxHeartbeats 1000000
/-! Vs6: comprehensions, defs and calls. -/
namespace Vs
open Enc (toD)
open PySem PySem.Spec PyProof.Rows L2

/-! ### comprehensions -/
abbrev W0 : WX := fun _ _ _ _ => False
theorem wipe_at {σ : St} {i : Nat} : ∀ {vs : List Nat}, (wipe σ vs)[i]? = if i ∈ vs then (if i < σ.length then some none else none) else σ[i]?
  | [] => by simp [wipe]
  | v :: vs => by
    unfold wipe
    by_cases h : v = i
    · subst h
      by_cases hl : v < σ.length
      · rw [List.getElem?_set_self (by rw [wipe_length]; exact hl)]; simp [hl]
      · rw [List.getElem?_eq_none (by rw [List.length_set, wipe_length]; omega)]; simp [hl]
    · rw [List.getElem?_set_ne h, wipe_at (vs := vs)]
      simp [Ne.symm h]
theorem wipe_eq {σ σ' : St} {vs : List Nat} (hl : σ'.length = σ.length) (h : ∀ j, j ∉ vs → σ'[j]? = σ[j]?) : wipe σ' vs = wipe σ vs := by
  apply List.ext_getElem?
  intro i
  rw [wipe_at, wipe_at, hl]
  by_cases hi : i ∈ vs
  · simp [hi]
  · simp [hi, h i hi]
/-- the block's own slots are forgotten -/
theorem Rho.wipe {K : PySem.W.Frag} {n : Nat} {F0 H0 F H : Hp} {σ : St} {ρ ρ' : Rs} {vs : List Nat} (R : Rho K n F0 H0 F H σ ρ) (w : ∀ p ∈ ρ', p ∈ ρ ∧ p.1 ∉ vs) : Rho K n F0 H0 F H (wipe σ vs) ρ' := by
  have same : ∀ {j : Nat}, j ∉ vs → (L2.wipe σ vs)[j]? = σ[j]? := fun hj => by rw [wipe_at, if_neg hj]
  refine ⟨by rw [wipe_length]; exact R.len, R.base, fun j d m => ?_, fun j d m => ?_, fun j k d e a m1 m2 e1 e2 => ?_⟩
  · obtain ⟨m', ne⟩ := w _ m
    obtain ⟨v, e, r⟩ := R.sh j d m'
    exact ⟨v, by rw [same ne]; exact e, r⟩
  · obtain ⟨m', ne⟩ := w _ m
    obtain ⟨a, e, c⟩ := R.ow j d m'
    exact ⟨a, by rw [same ne]; exact e, c⟩
  · obtain ⟨m1', n1⟩ := w _ m1
    obtain ⟨m2', n2⟩ := w _ m2
    exact R.inj j k d e a m1' m2' (by rw [← same n1]; exact e1) (by rw [← same n2]; exact e2)
section
variable {X : Cx} {W : WX} {ρ : Rs} {pos : Pos} {α β γ δ S τ Ω : Type} [Enc α] [Enc β] [Enc γ] [Enc δ]
abbrev XTs (X : Cx) (W : WX) (ρ : Rs) (ifs : List Expr) (m : Res Bool) : Prop := PTs X ifs (rdT X.K X.N.length W ρ m)
theorem XTs.nil : XTs X W ρ [] (.ok true) := ⟨fun pins s σ H Q I ⟨F0, H0, F, R, p⟩ => pts_nil.run pins s σ H Q I (p F H (.refl R.fh))⟩
theorem XTs.one {c : Expr} {m : Res Bool} (h : XT X W ρ c m) : XTs X W ρ [c] m := pts_one h
theorem PTs.imp {ifs : List Expr} {t t' : TT} (h : PTs X ifs t) (hi : ∀ σ H Q, t' σ H Q → t σ H Q) : PTs X ifs t' := ⟨fun pins s σ H Q I q => h.run pins s σ H Q I (hi σ H Q q)⟩
theorem PTs.ex {ι : Type} {ifs : List Expr} {t : ι → TT} (h : ∀ i, PTs X ifs (t i)) : PTs X ifs (fun σ H Q => ∃ i, t i σ H Q) := ⟨fun pins s σ H Q I ⟨i, q⟩ => (h i).run pins s σ H Q I q⟩
/-- within a comprehension's block no error may leave -/
theorem post_noXT {K : PySem.W.Frag} {F H : Hp} {m : Res Bool} {Q : Bool → Hp → Prop} (p : PostT K W0 F H (noX m) Q) : PostT K W0 F H m Q := by
  cases m with
  | ok b => exact p
  | exc c i => exact p.elim
  | stuck => exact p
theorem post_noXV {K : PySem.W.Frag} {F H : Hp} {m : Res PyData} {Q : VK} (p : PostV K W0 F H (noX m) Q) : PostV K W0 F H m Q := by
  cases m with
  | ok b => exact p
  | exc c i => exact p.elim
  | stuck => exact p
/-- what holds of a turn: z items are made, D the new list -/
structure LcW (K : PySem.W.Frag) (n : Nat) (F0 H0 F1 : Hp) (σ : St) (ρ1 : Rs) (D : Addr) (F H : Hp) (acc : List β) : Prop where
  R : Rho K n F0 H0 F H σ ρ1
  sf : Sub F1 F
  zf : F D = none
  z0 : H0 D = none
  no : ∀ j e, (j, SV.ow e) ∈ ρ1 → σ[j]? ≠ some (some (.ref D))
  lst : ∃ vs, H D = some (.lst vs) ∧ RpAll K F vs (acc.map toD)
theorem lcR_cons (t : α → Res Bool) (f : α → Res β) (x : α) (xs : List α) : lcR t f (x :: xs) = (noX (t x) >>= fun b => if b then noX (f x) >>= fun y => lcR t f xs >>= fun ys => .ok (y :: ys) else lcR t f xs) := rfl
theorem lcR_len {t : α → Res Bool} {f : α → Res β} : ∀ {xs : List α} {ys : List β}, lcR t f xs = .ok ys → ys.length ≤ xs.length
  | [], ys, h => by cases h; exact Nat.le_refl _
  | x :: xs, ys, h => by
    rw [lcR_cons] at h
    obtain ⟨b, _, h⟩ := Res.eq_ok_of_bind h
    cases b with
    | false => exact Nat.le_succ_of_le (lcR_len h)
    | true =>
      obtain ⟨y, _, h⟩ := Res.eq_ok_of_bind h
      obtain ⟨zs, h1, h⟩ := Res.eq_ok_of_bind h
      cases h
      exact Nat.succ_le_succ (lcR_len h1)
theorem lcR_no {t : α → Res Bool} {f : α → Res β} : ∀ {xs : List α} {c : Str} {i : Int}, lcR t f xs ≠ .exc c i
  | [], _, _, h => by cases h
  | x :: xs, c, i, h => by
    rw [lcR_cons] at h
    cases e : noX (t x) with
    | exc c' i' => exact noX_no e
    | stuck => rw [e] at h; cases h
    | ok b =>
      rw [e] at h
      cases b with
      | false => exact lcR_no h
      | true =>
        cases e2 : noX (f x) with
        | exc c' i' => exact noX_no e2
        | stuck => simp only [Res.ok_bind, if_true, e2] at h; cases h
        | ok y =>
          simp only [Res.ok_bind, if_true, e2] at h
          cases e3 : lcR t f xs with
          | exc c' i' => exact lcR_no e3
          | stuck => rw [e3] at h; cases h
          | ok ys => rw [e3] at h; cases h
/-- the reading of a list comprehension over a walk -/
theorem lc_read {K : PySem.W.Frag} {n : Nat} {tg : Expr} {is : List Nat} {ρ1 : Rs} {ρb : α → Rs} {mi : Res (List α)} {mt : α → Res Bool} {me : α → Res β} {vs : List Nat} {σ : St} {H : Hp} {Q : VK}
    (his : ∀ j ∈ is, j ∈ vs) (w1 : ∀ p ∈ ρ1, p ∈ ρ ∧ p.1 ∉ vs) (h : rdF K n W ρ ((do
    let xs ← mi
    lcR mt me xs).map toD) σ H Q) :
    tLc (rdI K n W ρ (mi.map fun xs => xs.map toD)) (fun v σ H Q => ∃ x, rdG K n is ρ1 (toD x) (ρb x) v σ H Q) (fun σ H Q => ∃ x, rdT K n W0 (ρb x) (mt x) σ H Q) (fun σ H Q => ∃ x, rdV K n W0 (ρb x) ((me x).map toD) σ H Q) vs σ H Q := by
  obtain ⟨F0, H0, F, R, p⟩ := h
  refine ⟨F0, H0, F, R, ?_⟩
  cases mi with
  | exc c i => exact p
  | stuck => exact p
  | ok xs =>
    intro J F1 H1 g it hz D nD
    have p1 : PostF K W F H ((lcR mt me xs).map toD) Q := p
    cases el : lcR mt me xs with
    | exc c i => exact absurd el lcR_no
    | stuck => rw [el] at p1; exact p1.elim
    | ok out =>
      rw [el] at p1
      have R1 : Rho K n F0 H0 F1 H1 (wipe σ vs) ρ1 := (R.grow g).wipe w1
      have z0 : H0 D = none := sub_free R.base.h (sub_free g.h nD)
      -- W: i turns are done, acc is made, the rest gives the rest
      refine ⟨fun i m H' => ∃ F' acc zs, m = xs.length - i ∧ i ≤ xs.length ∧ LcW K n F0 H0 F1 (wipe σ vs) ρ1 D F' H' acc ∧ lcR mt me (xs.drop i) = .ok zs ∧ acc ++ zs = out ∧ acc.length ≤ i ∧ Grow F H F' H',
        ⟨xs.length, F1, [], out, by simp, Nat.zero_le _, ⟨R1.grow (.own R1.fh nD), fun _ _ e => e, sub_free R1.fh nD, z0, fun j e m q => ?_, [], upd_same, .nil⟩, el, rfl, Nat.le_refl _, g.trans (.own g.fh nD)⟩, ?_⟩
      · obtain ⟨a, e1, c1, _⟩ := R1.ow j e m
        rw [q] at e1; cases e1
        exact c1.there nD
      · rintro i m H2 ⟨F2, acc, zs, rfl, hi2, L, e2, eo, ha, g2⟩
        by_cases hlt : i < xs.length
        · have ex : xs[i]? = some xs[i] := List.getElem?_eq_getElem hlt
          rw [drop_cons ex, lcR_cons] at e2
          obtain ⟨b, eb, e2⟩ := Res.eq_ok_of_bind e2
          refine .inr ⟨it.go i F2 H2 L.sf L.R.fh (by simpa using hlt), fun H' => ∃ F' acc zs, LcW K n F0 H0 F1 (wipe σ vs) ρ1 D F' H' acc ∧ lcR mt me (xs.drop (i + 1)) = .ok zs ∧ acc ++ zs = out ∧ acc.length ≤ i + 1 ∧ Grow F H F' H',
            fun H' ⟨F', acc', zs', L', e', eo', ha', g'⟩ => ⟨xs.length - (i + 1), by omega, F', acc', zs', rfl, hlt, L', e', eo', ha', g'⟩, fun v H3 y => ?_⟩
          obtain ⟨F3, g3, r3⟩ := it.yld i F2 H2 (toD xs[i]) v H3 L.sf L.R.fh (by rw [List.getElem?_map, ex]; rfl) y
          refine ⟨xs[i], F0, H0, F3, L.R.grow g3, r3, fun σ4 R4 k4 => ⟨?_, xs[i], F0, H0, F3, R4, ?_⟩⟩
          · rw [wipe_eq (σ := wipe σ vs) (by rw [R4.len, L.R.len]) fun j hj => k4 j fun hm => hj (his j hm)]
            exact wipe_eq (by rw [wipe_length]) fun j hj => by rw [wipe_at, if_neg hj]
          · -- what a step that grows keeps
            have keep : ∀ {F4 H4 : Hp}, Grow F2 H2 F4 H4 → LcW K n F0 H0 F1 (wipe σ vs) ρ1 D F4 H4 acc := fun {F4 H4} g4 => by
              obtain ⟨ws, e1, rw1⟩ := L.lst
              exact ⟨L.R.grow g4, L.sf.trans g4.f, by rw [g4.fn D (by rw [e1]; exact .lst)]; exact L.zf, z0, L.no, ws, g4.h _ _ e1, rw1.sub g4.f⟩
            cases et : mt xs[i] with
            | exc c i => rw [et] at eb; cases eb
            | stuck => rw [et] at eb; cases eb
            | ok b' =>
              rw [et] at eb
              cases eb
              intro F4 H4 g4
              cases b with
              | false => exact ⟨F4, acc, zs, keep (g3.trans g4), e2, eo, Nat.le_succ_of_le ha, g2.trans (g3.trans g4)⟩
              | true =>
                simp only [if_true] at e2
                obtain ⟨y', ey, e2⟩ := Res.eq_ok_of_bind e2
                obtain ⟨zs', ez, e2⟩ := Res.eq_ok_of_bind e2
                cases e2
                refine ⟨xs[i], F0, H0, F4, R4.grow g4, ?_⟩
                cases em : me xs[i] with
                | exc c i => rw [em] at ey; cases ey
                | stuck => rw [em] at ey; cases ey
                | ok y'' =>
                  rw [em] at ey
                  cases ey
                  intro u F5 H5 g5 r5
                  have L5 := keep ((g3.trans g4).trans g5)
                  obtain ⟨ws, e1, rw1⟩ := L5.lst
                  have hlen : ws.length = acc.length := by rw [rw1.length, List.length_map]
                  refine ⟨ws, e1, ?_, F5, acc ++ [y'], zs', ⟨⟨L5.R.len, ⟨L5.R.base.f, fun b o q => ?_, fun b o q => ?_, L5.R.base.fn⟩, L5.R.sh, fun j d m => ?_, L5.R.inj⟩, L5.sf, L5.zf, z0, L5.no, ws ++ [u], upd_same, ?_⟩, ez, by rw [List.append_assoc]; exact eo, by rw [List.length_append]; exact Nat.succ_le_succ ha, ?_⟩
                  · have h1 : xs.length ≤ sizeLine := by simpa using hz
                    rw [hlen]; omega
                  · rw [upd_ne (ne_of_none q z0)]; exact L5.R.base.h b o q
                  · rw [upd_ne (ne_of_none q L5.zf)]; exact L5.R.fh b o q
                  · obtain ⟨a, e6, c6, z6⟩ := L5.R.ow j d m
                    have hne : a ≠ D := fun q => L5.no j d m (by rw [e6, q])
                    exact ⟨a, e6, ⟨c6.1, by rw [upd_ne hne]; exact c6.2⟩, z6⟩
                  · rw [show (acc ++ [y']).map toD = acc.map toD ++ [toD y'] by simp]
                    exact rw1.append (.cons r5 .nil)
                  · have g6 := g2.trans ((g3.trans g4).trans g5)
                    have hD : H D = none := sub_free g.h nD
                    exact ⟨g6.f, fun b o q => by rw [upd_ne (ne_of_none q hD)]; exact g6.h b o q, fun b o q => by rw [upd_ne (ne_of_none q L5.zf)]; exact g6.fh b o q, g6.fn⟩
        · have e : i = xs.length := by omega
          subst e
          rw [List.drop_length] at e2
          cases e2
          rw [List.append_nil] at eo
          subst eo
          obtain ⟨ws, e1, rw1⟩ := L.lst
          exact .inl ⟨it.stop _ F2 H2 L.sf L.R.fh (by simp), p1 D F2 H2 g2 (sub_free g.h nD) ⟨L.zf, .inl ⟨ws, _, e1, rw1, rfl⟩⟩⟩
/-- [elt for tg in iter if ..] -/
theorem XF.lc {elt tg iter : Expr} {ifs : List Expr} {scope : Scope} {is : List Nat} (own : List (Str × Nat)) (ks : List Nat) {mi : Res (List α)} {mt : α → Res Bool} {me : α → Res β} (ρ1 : Rs) (ρb : α → Rs) (hc : X.calm = true) (hN : X.N.Nodup) (hi : XI X W ρ tg iter mi)
    (ok : blkC X.N X.env.scope scope own = true) (hg : ∀ x (s : Shared) (H : Hp) (C : Addr) (cl : List (Str × Addr)) (fp : List Addr), XG (X.blk s H scope (compEnvC scope cl C X.env) fp) is ρ1 tg (toD x) (ρb x))
    (ht : ∀ x (s : Shared) (H : Hp) (C : Addr) (cl : List (Str × Addr)) (fp : List Addr), XTs (X.blk s H scope (compEnvC scope cl C X.env) fp) W0 (ρb x) ifs (mt x))
    (he : ∀ x (s : Shared) (H : Hp) (C : Addr) (cl : List (Str × Addr)) (fp : List Addr), XV (X.blk s H scope (compEnvC scope cl C X.env) fp) W0 (ρb x) elt (me x))
    (hρ : ρ1 = keepAt ρ ks := by rfl) (ho : okK ρ (own.map (·.2)) ks = true := by rfl) (his : (is.all fun j => (own.map (·.2)).contains j) = true := by rfl) (hs : ∀ x, foldedSetIterable iter X.env x = pure x := by intro _; rfl) :
    XF X W ρ (.ListComp elt [⟨tg, iter, ifs, 0⟩] scope pos) (do
    let xs ← mi
    lcR mt me xs) :=
  PE.imp (pe_lc hc hN hi (blkOk_by ok) (fun s H C cl fp => PG.ex fun x => hg x s H C cl fp) (fun s H C cl fp => PTs.ex fun x => ht x s H C cl fp) (fun s H C cl fp => PE.ex fun x => he x s H C cl fp) hs) fun σ H Q h =>
    lc_read (tg := tg) (fun j hj => by simpa [List.contains_iff_mem] using List.all_eq_true.mp his j hj) (fun p hp => by rw [hρ] at hp; exact ⟨keep_mem hp, keep_ne hp ho⟩) h
/-- name = [..], what is made is this name's own -/
theorem XB.asgLc (i : Nat) {nm : Str} {py : Pos} {elt tg iter : Expr} {ifs : List Expr} {scope : Scope} {is : List Nat} (own : List (Str × Nat)) (ks ks2 : List Nat) {rest : List Stmt} {mi : Res (List α)} {mt : α → Res Bool} {me : α → Res β} {mr : List β → Res τ} {fin : τ → Fi} (ρ1 : Rs) (ρb : α → Rs) (ρ' : List β → Rs)
    (hc : X.calm = true) (hN : X.N.Nodup) (hi : XI X W ρ tg iter mi)
    (ok : blkC X.N X.env.scope scope own = true) (hg : ∀ x (s : Shared) (H : Hp) (C : Addr) (cl : List (Str × Addr)) (fp : List Addr), XG (X.blk s H scope (compEnvC scope cl C X.env) fp) is ρ1 tg (toD x) (ρb x))
    (ht : ∀ x (s : Shared) (H : Hp) (C : Addr) (cl : List (Str × Addr)) (fp : List Addr), XTs (X.blk s H scope (compEnvC scope cl C X.env) fp) W0 (ρb x) ifs (mt x))
    (he : ∀ x (s : Shared) (H : Hp) (C : Addr) (cl : List (Str × Addr)) (fp : List Addr), XV (X.blk s H scope (compEnvC scope cl C X.env) fp) W0 (ρb x) elt (me x)) (hr : ∀ ys, XB X W (ρ' ys) rest (mr ys) fin)
    (hsw : swapsWith (.ListComp elt [⟨tg, iter, ifs, 0⟩] scope pos) (some (.Name nm py)) pos.line X.env = pure true)
    (hρ : ρ1 = keepAt ρ ks := by rfl) (ho : okK ρ (own.map (·.2)) ks = true := by rfl) (his : (is.all fun j => (own.map (·.2)).contains j) = true := by rfl)
    (hρ' : ∀ ys, ρ' ys = (i, SV.ow (toD ys)) :: keepAt ρ ks2 := by intro _; rfl) (ho' : okK ρ [i] ks2 = true := by rfl) (hi' : X.N[i]? = some nm := by rfl) (hyl : X.env.scope.names.lookup nm = some .local := by rfl) (hs : ∀ x, foldedSetIterable iter X.env x = pure x := by intro _; rfl) {pos' : Pos} (hpos : pos'.line = pos.line := by rfl) :
    XB X W ρ (.Assign [.Name nm py] (.ListComp elt [⟨tg, iter, ifs, 0⟩] scope pos) pos' :: rest) (do
    let xs ← mi
    let ys ← lcR mt me xs
    mr ys) fin := by
  refine PSs.imp (pss_cons (ps_setLc (i := i) (own := own) hc hN hi' hyl (by rw [hpos]; exact hsw) hi (blkOk_by ok) (fun s H C cl fp => PG.ex (t := fun x => rdG X.K X.N.length is ρ1 (toD x) (ρb x)) fun x => hg x s H C cl fp) (fun s H C cl fp => PTs.ex (t := fun x => rdT X.K X.N.length W0 (ρb x) (mt x)) fun x => ht x s H C cl fp) (fun s H C cl fp => PE.ex (t := fun x => rdV X.K X.N.length W0 (ρb x) ((me x).map toD)) fun x => he x s H C cl fp) hs) (PSs.ex hr)) fun D σ H ⟨F0, H0, F, R, p⟩ => ?_
  have p1 : PostS X.K X.N.length W F0 H0 F ((mi >>= fun xs => lcR mt me xs) >>= mr) fin D := by
    rw [Res.bind_assoc']; exact p
  unfold tSeq tAsg
  refine lc_read (W := W) (tg := tg) (ρ := ρ) (ρ1 := ρ1) (is := is) (ρb := ρb) (mi := mi) (mt := mt) (me := me) (vs := own.map (·.2)) (fun j hj => by simpa [List.contains_iff_mem] using List.all_eq_true.mp his j hj) (fun p hp => by rw [hρ] at hp; exact ⟨keep_mem hp, keep_ne hp ho⟩) ⟨F0, H0, F, R, ?_⟩
  have q := PostS.bindF R p1
  cases em : (mi >>= fun xs => lcR mt me xs) with
  | exc c i => rw [em] at q; exact q
  | stuck => rw [em] at q; exact q
  | ok ys =>
    rw [em] at p1
    intro a F1 H1 g z c
    refine ⟨ys, F0, H0, F1, ?_, PostS.sub g.f p1⟩
    refine (R.grow g).setO (List.getElem?_eq_some_iff.mp hi').1 c (sub_free R.base.h z) (fun j e m hj q => ?_) (by rw [hρ']; exact put_w ho')
    obtain ⟨b, e1, c1, _⟩ := R.ow j e m
    rw [q] at e1; cases e1
    exact c1.there z

/-! ### defs -/
/-- R: the arguments' data and what the def gives for them -/
def spR (K : PySem.W.Frag) (R : List PyData → Res PyData → Prop) : Sp := fun vs H Q E => ∃ F ds r, R ds r ∧ Sub F H ∧ RpAll K F vs ds ∧ PostV K (fun c d _ H => E c d H) F H r Q
abbrev FnV (P : Program) (w : World) (K : PySem.W.Frag) (mg : Str → Option Value) (base : Heap) (k : Nat) (f : Addr) (fd : FuncData) (ps : List Str) (R : List PyData → Res PyData → Prop) : Prop := FnG P w K mg base (L2.CX P w) k f fd ps (spR K R)
/-- the slots at the entry -/
def entry : Nat → List PyData → Rs
  | _, [] => []
  | i, d :: ds => (i, SV.sh d) :: entry (i + 1) ds
theorem entry_mem : ∀ {ds : List PyData} {i j : Nat} {sv : SV}, (j, sv) ∈ entry i ds → ∃ k d, j = i + k ∧ sv = .sh d ∧ ds[k]? = some d
  | [], _, _, _, h => nomatch h
  | d :: ds, i, j, sv, h => by
    rcases List.mem_cons.mp h with e | h
    · cases e
      exact ⟨0, d, rfl, rfl, rfl⟩
    · obtain ⟨k, d', e1, e2, e3⟩ := entry_mem h
      exact ⟨k + 1, d', by omega, e2, e3⟩
theorem rho_start {K : PySem.W.Frag} {N : List Str} {F H : Hp} {vs : List V} {ds : List PyData} (s : Sub F H) (r : RpAll K F vs ds) (hl : vs.length ≤ N.length) : Rho K N.length F H F H (L2.start N vs) (entry 0 ds) := by
  refine ⟨by unfold L2.start; rw [List.length_append, List.length_map, List.length_replicate]; omega, .refl s, fun i d m => ?_, fun i d m => ?_, fun i j d e a m1 m2 _ _ => ?_⟩
  · obtain ⟨k, d', rfl, e2, e3⟩ := entry_mem m
    cases e2
    obtain ⟨v, h1, h2⟩ := r.get e3
    refine ⟨v, ?_, h2⟩
    unfold L2.start
    have hk := (List.getElem?_eq_some_iff.mp h1).1
    rw [List.getElem?_append_left (by simpa using by omega), List.getElem?_map, Nat.zero_add, h1]; rfl
  · obtain ⟨k, d', _, e2, _⟩ := entry_mem m
    cases e2
  · obtain ⟨k, d', _, e2, _⟩ := entry_mem m1
    cases e2
section
variable {P : Program} {w : World} {K : PySem.W.Frag} {mg : Str → Option Value} {base : Heap} {x qual : Str} {params : Arguments} {body : List Stmt} {scope : Scope} {f : Addr} {fd : FuncData} {N ps : List Str} {k : Nat} {R : List PyData → Res PyData → Prop}
abbrev defX (P : Program) (w : World) (K : PySem.W.Frag) (mg : Str → Option Value) (base : Heap) (N : List Str) (qual : Str) (scope : Scope) (f : Addr) (cdv : Value) (A : Around) (outer : List Env) (s : Shared) (H : Hp) (E : XK) : Cx := cxOf (L2.CX P w) P w K mg base N qual scope f cdv A outer s H E
abbrev defW (E : XK) : WX := fun c d _ H => E c d H
/-- a def's body does what R says: each way either returns, or comes to the end (None) -/
theorem fn_def {τ : List PyData → Res PyData → Type} (F : FunD K x qual params body scope [] [] f fd) (S : FnScope N ps scope) (hR : ∀ ds r, R ds r → ds.length = ps.length) (hl : ps.length ≤ N.length)
    (hbody : ∀ (cdv : Value) (A : Around) (outer : List Env) (s : Shared) (H : Hp) (E : XK), GRoom k (A.deeper (envOfC qual scope s.heap.objs.size f cdv)) → ∀ ds r, R ds r →
      ∃ (τ : Type) (m : Res τ) (fin : τ → Fi), XB (defX P w K mg base N qual scope f cdv A outer s H E) (defW E) (entry 0 ds) body m fin ∧ (∀ c i, m = .exc c i → r = .exc c i) ∧ (m = .stuck → r = .stuck) ∧
        ∀ t, m = .ok t → (∃ d, fin t = .rt d ∧ r = .ok d) ∨ (∃ ρ', fin t = .nx ρ' ∧ r = .ok .none)) : FnV P w K mg base (k + 1) f fd ps R := by
  refine FnG.of F S (fun vs H Q E ⟨F1, ds, r, hr, _, rv, _⟩ => rv.length.trans (hR ds r hr)) fun cdv A outer s H vs Q E hr ⟨F1, ds, r, hR1, s1, rv, p⟩ => ?_
  obtain ⟨τ, m, fin, hb, hx, hst, hok⟩ := hbody cdv A outer s H E hr ds r hR1
  refine ⟨_, hb, F1, H, F1, rho_start s1 rv (by rw [rv.length, hR ds r hR1]; exact hl), ?_⟩
  cases m with
  | exc c i =>
    rw [hx c i rfl] at p
    exact p
  | stuck =>
    rw [hst rfl] at p
    exact p
  | ok t =>
    rcases hok t rfl with ⟨d, e1, e2⟩ | ⟨ρ', e1, e2⟩
    · rw [e2] at p
      show (match fin t with
        | .nx ρ' => _
        | .rt d => _
        | .bk ρ' => _)
      rw [e1]
      exact fun v F' H' g r' => p v F' H' g r'
    · rw [e2] at p
      show (match fin t with
        | .nx ρ' => _
        | .rt d => _
        | .bk ρ' => _)
      rw [e1]
      exact fun σ' F' H' R' _ => p .non F' H' R'.base .non
end
/-- a def that returns -/
theorem fn_ret {P : Program} {w : World} {K : PySem.W.Frag} {mg : Str → Option Value} {base : Heap} {x qual : Str} {params : Arguments} {body : List Stmt} {scope : Scope} {f : Addr} {fd : FuncData} {N ps : List Str} {k : Nat} {ι β : Type} [Enc β] {args : ι → List PyData} {m : ι → Res β}
    (F : FunD K x qual params body scope [] [] f fd) (S : FnScope N ps scope) (hR : ∀ i, (args i).length = ps.length) (hl : ps.length ≤ N.length := by decide)
    (hbody : ∀ (cdv : Value) (A : Around) (outer : List Env) (s : Shared) (H : Hp) (E : XK), GRoom k (A.deeper (envOfC qual scope s.heap.objs.size f cdv)) → ∀ i,
      XB (defX P w K mg base N qual scope f cdv A outer s H E) (defW E) (entry 0 (args i)) body (m i) fun b => .rt (toD b)) :
    FnV P w K mg base (k + 1) f fd ps (fun ds r => ∃ i, ds = args i ∧ r = (m i).map toD) := by
  refine fn_def (τ := fun _ _ => Unit) F S (fun ds r ⟨i, e, _⟩ => by rw [e]; exact hR i) hl fun cdv A outer s H E hr ds r ⟨i, e1, e2⟩ => ?_
  subst e1 e2
  refine ⟨β, m i, _, hbody cdv A outer s H E hr i, fun c j e => by rw [e]; rfl, fun e => by rw [e]; rfl, fun t e => .inl ⟨toD t, rfl, by rw [e]; rfl⟩⟩
/-- a def that comes to its end -/
theorem fn_proc {P : Program} {w : World} {K : PySem.W.Frag} {mg : Str → Option Value} {base : Heap} {x qual : Str} {params : Arguments} {body : List Stmt} {scope : Scope} {f : Addr} {fd : FuncData} {N ps : List Str} {k : Nat} {ι : Type} {args : ι → List PyData} {m : ι → Res Unit}
    (F : FunD K x qual params body scope [] [] f fd) (S : FnScope N ps scope) (hR : ∀ i, (args i).length = ps.length) (hl : ps.length ≤ N.length := by decide)
    (hbody : ∀ (cdv : Value) (A : Around) (outer : List Env) (s : Shared) (H : Hp) (E : XK), GRoom k (A.deeper (envOfC qual scope s.heap.objs.size f cdv)) → ∀ i,
      XB (defX P w K mg base N qual scope f cdv A outer s H E) (defW E) (entry 0 (args i)) body (m i) fun _ => .nx []) :
    FnV P w K mg base (k + 1) f fd ps (fun ds r => ∃ i, ds = args i ∧ r = (m i).map toD) := by
  refine fn_def (τ := fun _ _ => Unit) F S (fun ds r ⟨i, e, _⟩ => by rw [e]; exact hR i) hl fun cdv A outer s H E hr ds r ⟨i, e1, e2⟩ => ?_
  subst e1 e2
  refine ⟨Unit, m i, _, hbody cdv A outer s H E hr i, fun c j e => by rw [e]; rfl, fun e => by rw [e]; rfl, fun t e => .inr ⟨[], rfl, by rw [e]; rfl⟩⟩

/-! ### calls -/
theorem XV.callG {f : Addr} {fd : FuncData} {ps : List Str} {R : List PyData → Res PyData → Prop} {k : Nat} {x : Str} {p : Pos} {e : Expr} {es : List Expr} {m : Res (List PyData)} {r : List PyData → Res PyData} (G : FnV X.prog X.w X.K X.mg X.base k f fd ps R) (hr : GRoom k X.A) (tk : Takes X W)
    (hm : X.mg x = some (.ref f)) (hk : PySem.W.keepIn X.K (.ref f) = true) (hb : Binds X.K fd ps []) (ha : XA X W ρ (e :: es) m) (hR : ∀ ds, m = .ok ds → R ds (r ds)) (hg : Gl X x := by rfl)
    (hdb : (x == ("__debug__" : Str)) = false := by decide) (he : starEach (e :: es) X.env = (false, eval e X.env) :: starEach es X.env := by rfl) (hpl : (backTo pos (starEach es X.env)).any (·.1) = false := by rfl) :
    PE X (.Call (.Name x p) (e :: es) [] pos) (rdV X.K X.N.length W ρ (m >>= r)) := by
  refine PE.imp (pe_callG (E := fun c d H => ∀ σ, W c d σ H) G hr hg hm hk hb (passes_call tk fun c d σ H h => h σ) ha hdb he hpl) fun σ H Q ⟨F0, H0, F, Rh, p⟩ => ⟨F0, H0, F, Rh, ?_⟩
  cases m with
  | exc c i => exact p
  | stuck => exact p
  | ok ds =>
    intro vs F1 H1 g1 r1
    have p1 : PostV X.K W F1 H1 (r ds) Q := PostV.grow g1 p
    refine ⟨F1, ds, r ds, hR ds rfl, g1.fh, r1, ?_⟩
    cases er : r ds with
    | ok d => rw [er] at p1; exact p1
    | exc c i => rw [er] at p1; exact fun dx F' H' σ' g x n σ => p1 dx F' H' σ g x n
    | stuck => rw [er] at p1; exact p1
end
end Vs
end
section
set_option Elab.async false
set_option linter.all false
set_option maxRecDepth 100000
set_option maxHeartbeats 1000000
/-! Vs7: order, sorted, sets of ints, repr, dicts with plain keys. -/
namespace Vs
open Enc (toD)
open PySem PySem.Spec PyProof.Rows L2

/-! ### order -/
class PyLt (α : Type) [Enc α] [DecidableEq α] [PyEq α] [Ord1 α] : Prop where
  ok : ∀ a b : α, PySem.W.dataLt (toD a) (toD b) = Ord1.lt a b
  al : ∀ a b : α, PySem.W.alike (toD a) (toD b) = true
  nn : ∀ a : α, toD a ≠ .none
  sb : ∀ xs : List α, Ord1.sb xs = true → PySem.W.Sortable (xs.map toD)
section
variable {α β γ δ : Type} [Enc α] [Enc β] [Enc γ] [Enc δ] [DecidableEq α] [DecidableEq β] [DecidableEq γ] [DecidableEq δ] [PyEq α] [PyEq β] [PyEq γ] [PyEq δ] [Ord1 α] [Ord1 β] [Ord1 γ] [Ord1 δ]
instance : PyLt Int := ⟨fun a b => PySem.W.dataLt_int a b, fun a b => by show PySem.W.alike (.int a) (.int b) = true; simp [PySem.W.alike], fun a h => (by cases h), fun xs _ => PySem.W.Sortable.others fun b => ⟨fun h => (by cases h), fun _ h => (by cases h)⟩⟩
instance : PyLt PStr := ⟨fun a b => PySem.W.dataLt_str a.1 b.1, fun a b => by show PySem.W.alike (.str a.1) (.str b.1) = true; simp [PySem.W.alike], fun a h => (by cases h), fun xs _ => PySem.W.Sortable.others fun b => ⟨fun h => (by cases h), fun _ h => (by cases h)⟩⟩
instance : PyLt Bool := ⟨fun a b => by
    show PySem.W.dataLt (.bool a) (.bool b) = _
    rw [PySem.W.dataLt_bool]
    cases a <;> cases b <;> decide, fun a b => by show PySem.W.alike (.bool a) (.bool b) = true; simp [PySem.W.alike], fun a h => (by cases h), fun xs _ => PySem.W.Sortable.others fun b => ⟨fun h => (by cases h), fun _ h => (by cases h)⟩⟩
theorem row_lt [PyLt α] : ∀ xs ys : List α, PyProof.Rows.lexLt PyProof.Rows.itemOrd (PySem.W.keyToksAll (xs.map toD)) (PySem.W.keyToksAll (ys.map toD)) = ltRow xs ys
  | [], [] => PyProof.Rows.lex_irrefl _
  | [], y :: ys => by simp only [List.map_nil, List.map_cons, PySem.W.keyToksAll, ltRow, PyProof.Rows.lexLt]; rfl
  | x :: xs, [] => by simp only [List.map_nil, List.map_cons, PySem.W.keyToksAll, ltRow, PyProof.Rows.lexLt]; rfl
  | x :: xs, y :: ys => by
    rw [List.map_cons, List.map_cons, PySem.W.dataLt_cons (PyLt.al x y), PyEq.eqv x y, row_lt xs ys, PyLt.ok x y]
    show _ = if x = y then ltRow xs ys else Ord1.lt x y
    by_cases h : x = y <;> simp [h]
theorem row_al [PyLt α] : ∀ xs ys : List α, PySem.W.alikeAll (xs.map toD) (ys.map toD) = true
  | [], _ => by simp [PySem.W.alikeAll]
  | _ :: _, [] => by simp [PySem.W.alikeAll]
  | x :: xs, y :: ys => by
    rw [List.map_cons, List.map_cons, PySem.W.alikeAll, PyLt.al x y, row_al xs ys]; rfl
instance [PyLt α] : PyLt (List α) := ⟨fun a b => (PySem.W.dataLt_list _ _).trans (row_lt a b), fun a b => by
    show PySem.W.alike (.list (a.map toD)) (.list (b.map toD)) = true
    rw [PySem.W.alike]; exact row_al a b, fun a h => (by cases h), fun xs _ => PySem.W.Sortable.others fun b => ⟨fun h => (by cases h), fun _ h => (by cases h)⟩⟩
instance [PyLt α] : PyLt (Tup α) := ⟨fun a b => (PySem.W.dataLt_tuple _ _).trans (row_lt a.l b.l), fun a b => by
    show PySem.W.alike (.tuple (a.l.map toD)) (.tuple (b.l.map toD)) = true
    rw [PySem.W.alike]; exact row_al a.l b.l, fun a h => (by cases h), fun xs h => .inl fun d hd => by
    obtain ⟨b, hb, rfl⟩ := List.mem_map.mp hd
    have := List.all_eq_true.mp h b hb
    cases e : b.l with
    | nil => rw [e] at this; cases this
    | cons x r => exact ⟨toD x, r.map toD, by show PyData.tuple (b.l.map toD) = _; rw [e]; rfl⟩⟩
theorem lex_nil : PyProof.Rows.lexLt PyProof.Rows.itemOrd (PySem.W.keyToksAll []) (PySem.W.keyToksAll []) = false := PyProof.Rows.lex_irrefl _
theorem dec_if {p : Prop} [Decidable p] {A : Type} (x y : A) : (if decide p = true then x else y) = if p then x else y := by
  by_cases h : p <;> simp [h]
theorem lt_irr [PyLt α] (a : α) : Ord1.lt a a = false := by rw [← PyLt.ok a a]; exact PyProof.Rows.lex_irrefl _
instance [PyLt α] [PyLt β] : PyLt (α × β) := ⟨fun a b => by
    show PySem.W.dataLt (.tuple [toD a.1, toD a.2]) (.tuple [toD b.1, toD b.2]) = if a.1 = b.1 then Ord1.lt a.2 b.2 else Ord1.lt a.1 b.1
    rw [PySem.W.dataLt_tuple, PySem.W.dataLt_cons (PyLt.al _ _), PySem.W.dataLt_cons (PyLt.al _ _), lex_nil, PyEq.eqv, PyEq.eqv, PyLt.ok, PyLt.ok, dec_if, dec_if]
    by_cases h : a.2 = b.2
    · rw [if_pos h, h, lt_irr]
    · rw [if_neg h], fun a b => by
    show PySem.W.alike (.tuple [toD a.1, toD a.2]) (.tuple [toD b.1, toD b.2]) = true
    simp [PySem.W.alike, PySem.W.alikeAll, PyLt.al], fun a h => (by cases h), fun xs _ => PySem.W.Sortable.tuples fun b => ⟨_, _, rfl⟩⟩
instance [PyLt α] [PyLt β] [PyLt γ] : PyLt (T3 α β γ) := ⟨fun a b => by
    show PySem.W.dataLt (.tuple [toD a.a, toD a.b, toD a.c]) (.tuple [toD b.a, toD b.b, toD b.c]) = if a.a = b.a then (if a.b = b.b then Ord1.lt a.c b.c else Ord1.lt a.b b.b) else Ord1.lt a.a b.a
    rw [PySem.W.dataLt_tuple, PySem.W.dataLt_cons (PyLt.al _ _), PySem.W.dataLt_cons (PyLt.al _ _), PySem.W.dataLt_cons (PyLt.al _ _), lex_nil, PyEq.eqv, PyEq.eqv, PyEq.eqv, PyLt.ok, PyLt.ok, PyLt.ok, dec_if, dec_if, dec_if]
    by_cases h : a.c = b.c
    · rw [if_pos h, h, lt_irr]
    · rw [if_neg h], fun a b => by
    show PySem.W.alike (.tuple [toD a.a, toD a.b, toD a.c]) (.tuple [toD b.a, toD b.b, toD b.c]) = true
    simp [PySem.W.alike, PySem.W.alikeAll, PyLt.al], fun a h => (by cases h), fun xs _ => PySem.W.Sortable.tuples fun b => ⟨_, _, rfl⟩⟩
instance [PyLt α] [PyLt β] [PyLt γ] [PyLt δ] : PyLt (T4 α β γ δ) := ⟨fun a b => by
    show PySem.W.dataLt (.tuple [toD a.a, toD a.b, toD a.c, toD a.d]) (.tuple [toD b.a, toD b.b, toD b.c, toD b.d]) = if a.a = b.a then (if a.b = b.b then (if a.c = b.c then Ord1.lt a.d b.d else Ord1.lt a.c b.c) else Ord1.lt a.b b.b) else Ord1.lt a.a b.a
    rw [PySem.W.dataLt_tuple, PySem.W.dataLt_cons (PyLt.al _ _), PySem.W.dataLt_cons (PyLt.al _ _), PySem.W.dataLt_cons (PyLt.al _ _), PySem.W.dataLt_cons (PyLt.al _ _), lex_nil, PyEq.eqv, PyEq.eqv, PyEq.eqv, PyEq.eqv, PyLt.ok, PyLt.ok, PyLt.ok, PyLt.ok, dec_if, dec_if, dec_if, dec_if]
    by_cases h : a.d = b.d
    · rw [if_pos h, h, lt_irr]
    · rw [if_neg h], fun a b => by
    show PySem.W.alike (.tuple [toD a.a, toD a.b, toD a.c, toD a.d]) (.tuple [toD b.a, toD b.b, toD b.c, toD b.d]) = true
    simp [PySem.W.alike, PySem.W.alikeAll, PyLt.al], fun a h => (by cases h), fun xs _ => PySem.W.Sortable.tuples fun b => ⟨_, _, rfl⟩⟩
end

/-! ### sorted -/
theorem each_rp {X : Cx} {pins : List (Addr × Obj)} {σ : St} {F H : Hp} {s : Shared} {α : Type} [Enc α] [DecidableEq α] [PyEq α] (I : Inv X pins σ H s) (sf : Sub F H) : ∀ {vs : List V} {us : List Value} {xs : List α}, RpAll X.K F vs (xs.map toD) → Vals vs us →
    PySem.W.EachIs (fun u x => ∃ v, RelV v u ∧ Rp X.K F v (toD x)) us xs ∧ PySem.W.EachIs (fun u x => ∃ as, Reads s.heap u (toD x) as) us xs
  | _, _, [], r, q => by
    cases r; cases q
    exact ⟨.nil, .nil⟩
  | _, _, x :: xs, r, q => by
    rw [List.map_cons] at r
    cases r with
    | cons r1 r2 =>
      cases q with
      | cons q1 q2 =>
        obtain ⟨e1, e2⟩ := each_rp I sf r2 q2
        exact ⟨.cons ⟨_, q1, r1⟩ e1, .cons (Dp.reads I _ _ _ (r1.dp sf (PyEq.lay x)) q1) e2⟩
theorem each_back {K : PySem.W.Frag} {F : Hp} {α : Type} [Enc α] : ∀ {us : List Value} {xs : List α}, PySem.W.EachIs (fun u x => ∃ v, RelV v u ∧ Rp K F v (toD x)) us xs → ∃ vs, Vals vs us ∧ RpAll K F vs (xs.map toD)
  | _, _, .nil => ⟨[], .nil, .nil⟩
  | _, _, .cons ⟨v, r1, r2⟩ t => by
    obtain ⟨vs, q1, q2⟩ := each_back t
    exact ⟨v :: vs, .cons r1 q1, .cons r2 q2⟩
theorem le_same {α : Type} [Enc α] [DecidableEq α] [PyEq α] [Ord1 α] [PyLt α] : (PySem.W.dataLe false (toD : α → PyData)) = fun a b => !Ord1.lt b a := by
  rw [PySem.W.dataLe_eq]
  funext a b
  show (!PySem.W.dataLt (toD b) (toD a)) = _
  rw [PyLt.ok]
section
variable {X : Cx} {W : WX} {ρ : Rs} {pos : Pos} {α β γ δ S τ Ω : Type} [Enc α] [Enc β] [Enc γ] [Enc δ]
theorem sortL_ok [Ord1 α] {xs ys : List α} (h : sortL xs = .ok ys) : Ord1.sb xs = true ∧ ys = sortP xs := by
  unfold sortL at h
  split at h
  · cases h; exact ⟨by assumption, rfl⟩
  · cases h
theorem sortL_no [Ord1 α] {xs : List α} {c : Str} {i : Int} : sortL xs ≠ .exc c i := by
  unfold sortL; split <;> intro h <;> cases h
/-- sorted(xs) -/
theorem b_sorted [DecidableEq α] [PyEq α] [Ord1 α] [PyLt α] (hu : X.A.units + 64 < cLine) (hd : PyEq.dp α ≤ 60 := by decide) : C1F X (.builtin "sorted") (sortL : List α → Res (List α)) := ⟨fun pins s σ H xs us Q I rs q => by
  obtain ⟨F, x, z, v, sf, e, r, ez, q⟩ := q
  obtain ⟨h1, rfl⟩ := sortL_ok ez
  subst e
  obtain ⟨a, vs, rfl, h2, h3⟩ := r.lst_of sf
  obtain ⟨u, rfl, ru⟩ := vals1 rs
  obtain rfl : u = Value.ref a := ru
  obtain ⟨its, rv, pl, hz⟩ := I.list (.inl (.inl h2))
  obtain ⟨e1, e2⟩ := each_rp I sf h3 rv
  have hn : H (s.heap.objs.size + 1) = none := I.hok.fresh (Nat.le_succ _)
  refine PySem.W.sorted_data (enc := toD) (R := fun u x => ∃ v, RelV v u ∧ Rp X.K F v (toD x)) pl.isList e1 e2 (PySem.W.AllAlike.of fun b b' => PyLt.al b b') (PyLt.sb x h1) (by rw [← e1.length, ← rv.length]; exact hz) (fun b _ => by
    have := PyEq.dep b
    omega) fun out ho eo => ?_
  rw [le_same] at eo
  obtain ⟨ws, q1, q2⟩ := each_back eo
  obtain ⟨ep, he'⟩ := PyProof.Rows.sortedAll_at s.heap its (List.toArray out)
  have hlen : ws.length ≤ sizeLine := by
    rw [q1.length, ho, ← e1.length, ← rv.length]; exact hz
  exact ⟨.ref _, upd H (s.heap.objs.size + 1) (.lst ws), I.laid (t' := s.toks) (fun _ _ => PyProof.Rows.sortedAll_old) (Nat.le_succ _) ⟨hlen, out, ep, q1, he'⟩, rfl, q _ F _ (.own sf hn) hn ⟨sub_free sf hn, .inl ⟨ws, _, upd_same, q2, rfl⟩⟩⟩, fun _ _ _ => sortL_no⟩
end
end Vs
end
section
set_option Elab.async false
set_option linter.all false
set_option maxRecDepth 100000
set_option maxHeartbeats 1000000
/-! Vs9: sets of ints as parts of expressions; repr; dicts. -/
namespace Vs
open Enc (toD)
open PySem PySem.Spec PyProof.Rows L2
/-! ### sets of ints -/
def PostU (K : PySem.W.Frag) (w : World) (W : WX) (F H : Hp) (m : Res (List Int)) (Q : VK) : Prop := match m with
  | .ok xs => ∀ a F' H' c, Grow F H F' H' → F' a = none → H a = none → H' a = some (SetO w a (fun j => decide (j ∈ xs)) c) → Q (.ref a) H'
  | .exc c i => ∀ dx F' H' σ', Grow F H F' H' → XdAt H' dx i → H dx = none → W (cv K c) (some dx) σ' H'
  | .stuck => False
def rdU (K : PySem.W.Frag) (w : World) (n : Nat) (W : WX) (ρ : Rs) (m : Res (List Int)) : TE := fun σ H Q => ∃ F0 H0 F, Rho K n F0 H0 F H σ ρ ∧ PostU K w W F H m Q
/-- e gives a set of these ints -/
abbrev XU (X : Cx) (W : WX) (ρ : Rs) (e : Expr) (m : Res (List Int)) : Prop := PE X e (rdU X.K X.w X.N.length W ρ m)
theorem ints_at {K : PySem.W.Frag} {F H : Hp} {v : V} {xs : List Int} (s : Sub F H) (r : RpH K F H v (toD xs)) : ∃ a, v = .ref a ∧ H a = some (.lst (xs.map V.int)) := by
  obtain ⟨a, vs, e, h1, h2⟩ := r.lst_of s
  rw [ints_of h2] at h1
  exact ⟨a, e, h1⟩
theorem rp_ints {K : PySem.W.Frag} {F : Hp} : ∀ xs : List Int, RpAll K F (xs.map V.int) (xs.map toD)
  | [] => .nil
  | x :: xs => .cons (.int x) (rp_ints xs)
def rSetI (K : PySem.W.Frag) (w : World) : List V → Hp → VK → Prop := fun vs H Q => ∃ (a : Addr) (ns : List Int), vs = [.ref a] ∧ SqL K H a (ns.map V.int) ∧ ns.length + 1 < scanBound ∧ ∀ p c, H p = none → Q (.ref p) (upd H p (SetO w p (fun j => decide (j ∈ ns)) c))
section
variable {X : Cx} {W : WX} {ρ : Rs} {pos : Pos} {α β γ δ S τ Ω : Type} [Enc α] [Enc β] [Enc γ] [Enc δ]
theorem cr_setI (hc : X.calm = true) : CallR X (.type "set") (rSetI X.K X.w) := by
  intro pins s σ H vs us Q I r h
  obtain ⟨a, ns, rfl, hs, hb, q⟩ := h
  obtain ⟨its, rv, hl, hz⟩ := I.list hs
  rw [Vals.ref1 r]
  refine set_of_ints ns (I.ok.hd hc) hl.isList (by simpa using rv.ints) hb fun h' tk c R _ hk => ?_
  exact ⟨.ref _, upd H s.heap.objs.size (SetO X.w s.heap.objs.size (fun j => decide (j ∈ ns)) c), I.laid (t' := tk) hk (Nat.le_refl _) (setO_new R), rfl, q _ _ (I.hok.fresh (Nat.le_refl _))⟩
def rSortN (w : World) : List V → Hp → VK → Prop := fun vs H Q => ∃ (a : Addr) (S : Int → Bool) (n : Nat), vs = [V.ref a] ∧ H a = some (SetO w a S n) ∧
  ∀ (ns : List Int) (p : Addr), ns.Pairwise (· ≤ ·) → ns.Nodup → (∀ k : Int, k ∈ ns ↔ S k = true) → H p = none → Q (.ref p) (upd H p (.lst (ns.map V.int)))
theorem cr_sortN (hc : X.calm = true) (hu : X.A.units + 64 < cLine) : CallR X (.builtin "sorted") (rSortN X.w) := by
  intro pins s σ H vs us Q I r h
  obtain ⟨a, S, n, rfl, ha, q⟩ := h
  have R := setO_get I ha
  have hnb : n < scanBound := by
    obtain ⟨_, es, _, _, _, _, _, _, _, _, h1, _, h2, _⟩ := R
    omega
  rw [Vals.ref1 r]
  refine sorted_ints R (I.ok.hd hc) (by omega) fun s' p out c ns k g o hp hg hi hs nd hm hl => ?_
  have hlen : (ns.map V.int).length ≤ sizeLine := by
    rw [List.length_map, hl, sizeLine_eq]
    unfold scanBound at hnb
    omega
  have J : Inv X pins σ (upd H p (.lst (ns.map V.int))) { s with heap := s'.heap, gens := s'.gens, drawn := s'.drawn, toks := s'.toks } :=
    I.call (ch := []) (Un.laid k hp (I.hok.fresh hp)) (I.hok.laid k hp ⟨hlen, out.toList, c, vals_of_ints hi, hg⟩) (by rw [g]; exact I.bare) (fun _ z => nomatch z)
  have e : s' = { s with heap := s'.heap, gens := s'.gens, drawn := s'.drawn, toks := s'.toks } := by
    cases s'; cases s; cases o; rfl
  rw [e]
  exact ⟨.ref p, _, J, rfl, q ns p hs nd hm (I.hok.fresh hp)⟩
/-- a sorted list without repeats is told by its members -/
theorem sorted_same {xs ys : List Int} (h1 : xs.Pairwise (· ≤ ·)) (n1 : xs.Nodup) (h2 : ys.Pairwise (· ≤ ·)) (n2 : ys.Nodup) (h : ∀ k, k ∈ xs ↔ k ∈ ys) : xs = ys :=
  List.Perm.eq_of_pairwise (le := fun a b => a ≤ b) (fun a b _ _ h1 h2 => Int.le_antisymm h1 h2) h1 h2 ((List.perm_ext_iff_of_nodup n1 n2).mpr h)
theorem sortP_int (xs : List Int) : sortP xs = xs.mergeSort := by
  unfold sortP
  congr 1
  funext a b
  show (!decide (b < a)) = decide (a ≤ b)
  by_cases h : b < a
  · rw [decide_eq_true h, decide_eq_false (Int.not_le.mpr h)]; rfl
  · rw [decide_eq_false h, decide_eq_true (Int.not_lt.mp h)]; rfl
theorem sortP_int_le (xs : List Int) : (sortP xs).Pairwise (· ≤ ·) := by
  rw [sortP_int]
  exact List.pairwise_mergeSort (fun a b c h1 h2 => by simp only [decide_eq_true_eq] at *; omega) (fun a b => by simp only [Bool.or_eq_true, decide_eq_true_eq]; omega) xs |>.imp of_decide_eq_true
theorem sortP_perm [Ord1 α] (xs : List α) : (sortP xs).Perm xs := List.mergeSort_perm _ _
theorem sortS_mem {xs : List Int} {k : Int} : k ∈ sortS xs ↔ k ∈ xs := (sortP_perm _).mem_iff.trans mem_dedup
theorem sortS_nodup (xs : List Int) : (sortS xs).Nodup := (sortP_perm _).nodup_iff.mpr (nodup_dedup xs)
theorem sortS_le (xs : List Int) : (sortS xs).Pairwise (· ≤ ·) := sortP_int_le _
theorem XU.set {e : Expr} {p : Pos} {m : Res (List Int)} (hc : X.calm = true) (hm : X.mg "set" = none) (he : XW X W ρ e m) (hg : Gl X "set" := by rfl)
    (hs : starEach [e] X.env = [(false, eval e X.env)] := by rfl) : XU X W ρ (.Call (.Name "set" p) [e] [] pos) (do
    let xs ← m
    setI xs) := by
  refine PE.imp (pe_callTy (cr_setI hc) hg hm PyProof.Rows.boot_set (XA.one he hs) (by decide) (by decide) hs rfl) fun σ H Q ⟨F0, H0, F, R, p⟩ => ?_
  refine ⟨F0, H0, F, R, ?_⟩
  cases m with
  | exc c i => exact p
  | stuck => exact p
  | ok xs =>
    intro v F1 H1 g r
    have p1 : PostU X.K X.w W F H (setI xs) Q := p
    unfold setI at p1
    split at p1
    · obtain ⟨a, e, h1⟩ := ints_at g.fh r
      refine ⟨a, xs, by rw [e], .inl (.inl h1), by unfold scanBound; omega, fun q c nq => p1 q F1 _ c (g.trans (.own g.fh nq)) (sub_free g.fh nq) (sub_free g.h nq) upd_same⟩
    · exact p1.elim
/-- sorted(set) -/
theorem XF.sortedU {e : Expr} {p : Pos} {m : Res (List Int)} (hc : X.calm = true) (hu : X.A.units + 64 < cLine) (hm : X.mg "sorted" = none) (he : XU X W ρ e m) (hg : Gl X "sorted" := by rfl)
    (hs : starEach [e] X.env = [(false, eval e X.env)] := by rfl) : XF X W ρ (.Call (.Name "sorted" p) [e] [] pos) (do
    let xs ← m
    Res.ok (sortS xs)) := by
  refine PE.imp (pe_callB (cr_sortN hc hu) hg hm (by rfl) (PA.imp (pa_cons he pa_nil hs) fun σ H Q (h : rdU X.K X.w X.N.length W ρ m σ H fun v H1 => Q [v] H1) => h) (by decide) (by decide) hs rfl) fun σ H Q ⟨F0, H0, F, R, p⟩ => ?_
  refine ⟨F0, H0, F, R, ?_⟩
  cases m with
  | exc c i => exact p
  | stuck => exact p
  | ok xs =>
    intro a F1 H1 c g fa na ha
    refine ⟨a, _, c, rfl, ha, fun ns q h1 h2 h3 nq => ?_⟩
    have e1 : ns = sortS xs := sorted_same h1 h2 (sortS_le xs) (sortS_nodup xs) fun k => by rw [h3, sortS_mem]; simp
    have p1 : ∀ a F' H', Grow F H F' H' → H a = none → Cell X.K F' H' a (toD (sortS xs)) → Q (.ref a) H' := p
    refine p1 q F1 _ (g.trans (.own g.fh nq)) (sub_free g.h nq) ⟨sub_free g.fh nq, .inl ⟨_, _, upd_same, ?_, rfl⟩⟩
    rw [e1]
    exact rp_ints (sortS xs)
theorem mem_same {xs ys : List Int} (n1 : xs.Nodup) (n2 : ys.Nodup) (h : ∀ k, k ∈ xs ↔ k ∈ ys) : xs.length = ys.length := ((List.perm_ext_iff_of_nodup n1 n2).mpr h).length_eq
theorem cr_lenN : CallR X (.builtin "len") (fun vs H Q => ∃ (a : Addr) (xs : List Int) (n : Nat), vs = [V.ref a] ∧ H a = some (SetO X.w a (fun j => decide (j ∈ xs)) n) ∧ Q (.int (dedup xs).length) H) := by
  intro pins s σ H vs us Q I r h
  obtain ⟨a, xs, n, rfl, ha, q⟩ := h
  obtain ⟨o, es, ep, t, ho, hex, hd, g, nd, hm, hb, hf, hn, _⟩ := setO_get I ha
  rw [Vals.ref1 r]
  have e : es.size = (dedup xs).length := by
    have q := mem_same nd (nodup_dedup xs) fun k => by rw [← hm k, mem_dedup]; simp
    simpa using q
  refine call_len_set ho hex hd hf (by unfold scanBound at hb; omega) ⟨.int (es.size : Nat), H, I.tok _, ⟨s.toks + 1, rfl⟩, ?_⟩
  rw [e]; exact q
/-- len(set) -/
theorem XV.lenU {e : Expr} {p : Pos} {m : Res (List Int)} (hm : X.mg "len" = none) (he : XU X W ρ e m) (hg : Gl X "len" := by rfl)
    (hs : starEach [e] X.env = [(false, eval e X.env)] := by rfl) : XV X W ρ (.Call (.Name "len" p) [e] [] pos) (do
    let xs ← m
    Res.ok ((dedup xs).length : Int)) := by
  refine PE.imp (pe_callB cr_lenN hg hm (by rfl) (PA.imp (pa_cons he pa_nil hs) fun σ H Q (h : rdU X.K X.w X.N.length W ρ m σ H fun v H1 => Q [v] H1) => h) (by decide) (by decide) hs rfl) fun σ H Q ⟨F0, H0, F, R, p⟩ => ?_
  refine ⟨F0, H0, F, R, ?_⟩
  cases m with
  | exc c i => exact p
  | stuck => exact p
  | ok xs =>
    intro a F1 H1 c g fa na ha
    exact ⟨a, xs, c, rfl, ha, p _ F1 H1 g (.int _)⟩

/-! ### repr -/
def reprR (x : α) : Res RTx := if (toD x).showable = true ∧ (toD x).shown.length ≤ lim then .ok ⟨(toD x).shown⟩ else .stuck
theorem reprR_ok {x : α} {y : RTx} (h : reprR x = .ok y) : (toD x).showable = true ∧ (toD x).shown.length ≤ lim ∧ y = ⟨(toD x).shown⟩ := by
  unfold reprR at h
  split at h
  · rename_i q; cases h; exact ⟨q.1, q.2, rfl⟩
  · cases h
theorem reprR_no {x : α} {c : Str} {i : Int} : reprR x ≠ .exc c i := by unfold reprR; split <;> intro h <;> cases h
theorem b_repr {k : Nat} [DecidableEq α] [PyEq α] (gr : GRoom k X.A) (hd : PyEq.dp α ≤ 60 := by decide) : C1 X (.builtin "repr") (reprR : α → Res RTx) := ⟨fun pins s σ H xs us Q I rs q => by
  obtain ⟨F, x, z, v, sf, e, r, ez, q⟩ := q
  obtain ⟨h1, h2, rfl⟩ := reprR_ok ez
  subst e
  obtain ⟨u, rfl, ru⟩ := vals1 rs
  have lay := PyEq.lay x
  obtain ⟨as, rd⟩ := Dp.reads I _ _ _ (r.dp sf lay) ru
  have hz : (toD x).shown.length ≤ sizeLine := by rw [← lim_line]; exact h2
  have q' : ∀ (t : Tok) (h' : Heap) (tk : Nat), (∀ b o, s.heap.get? b = some o → h'.get? b = some o) → EP X pins σ Q (.str (toD x).shown t) { s with heap := h', toks := tk } := fun t h' tk hk =>
    ⟨.str (toD x).shown, H, I.kept hk, ⟨t, rfl⟩, q _ F H (.refl sf) (.str _)⟩
  generalize ed : toD x = d at h1 h2 hz q' rd lay
  cases rd with
  | none => simp only [PyData.shown] at q'; exact PySem.P.repr_of_none (q' _ _ _ fun _ _ e => e)
  | bool b => simp only [PyData.shown] at q'; exact PySem.P.repr_of_bool (q' _ _ _ fun _ _ e => e)
  | int i t => simp only [PyData.shown] at q'; exact PySem.P.repr_of_int (by simpa [PyData.showable] using h1) (q' _ _ _ fun _ _ e => e)
  | str y t => simp only [PyData.shown] at q' hz; exact PySem.P.repr_of_str (q' _ _ _ fun _ _ e => e) hz
  | list a1 a2 a3 a4 =>
    have hu := gr.r.units
    have dp := PyEq.dep x
    rw [ed] at dp
    exact repr_of_reads' (.list a1 a2 a3 a4) h1 (PyData.noDict_hsm (PyData.hasDict_of_canLay _ lay)) gr.g (by omega) (fun _ _ e => e) (fun h' u tk hk => q' u h' tk hk) hz
  | tuple a1 a2 a3 a4 =>
    have hu := gr.r.units
    have dp := PyEq.dep x
    rw [ed] at dp
    exact repr_of_reads' (.tuple a1 a2 a3 a4) h1 (PyData.noDict_hsm (PyData.hasDict_of_canLay _ lay)) gr.g (by omega) (fun _ _ e => e) (fun h' u tk hk => q' u h' tk hk) hz
  | dict a1 a2 a3 a4 a5 => simp [PyData.canLay0] at lay, fun _ _ _ => reprR_no⟩
theorem c_eqR : CmpOk X .Eq (fun a b : RTx => decide (a = b)) :=
  OpR.imp op_eq fun vx vy H Q ⟨F, x, y, s, r1, r2, q⟩ => by
    have e1 := RpH.str_of r1
    have e2 := RpH.str_of r2
    subst e1 e2
    refine ⟨rfl, ?_⟩
    rw [show decide (V.str x.s = V.str y.s) = decide (x = y) by
      congr 1
      exact propext ⟨fun h => by cases x; cases y; cases h; rfl, fun h => by rw [h]⟩]
    exact q
theorem c_neR : CmpOk X .NotEq (fun a b : RTx => !decide (a = b)) :=
  OpR.imp op_ne fun vx vy H Q ⟨F, x, y, s, r1, r2, q⟩ => by
    have e1 := RpH.str_of r1
    have e2 := RpH.str_of r2
    subst e1 e2
    refine ⟨rfl, ?_⟩
    rw [show decide (V.str x.s = V.str y.s) = decide (x = y) by
      congr 1
      exact propext ⟨fun h => by cases x; cases y; cases h; rfl, fun h => by rw [h]⟩]
    exact q
/-- a written text beside one that repr gave -/
theorem XV.rtx {x : Str} {j : Nat} : XV X W ρ (.Constant (.str x) j pos) (.ok (⟨x⟩ : RTx)) := PE.imp pe_str fun σ H Q ⟨F0, H0, F, R, p⟩ => p _ F H (.refl R.fh) (.str x)
end
end Vs
end
section
set_option Elab.async false
set_option linter.all false
set_option maxRecDepth 100000
set_option maxHeartbeats 1000000
/-! Vs10: dicts with ints or texts as keys. -/
namespace Vs
open Enc (toD)
open PySem PySem.Spec PyProof.Rows L2
class KeyK (κ : Type) [Enc κ] [DecidableEq κ] [DKey κ] where
  key : κ → Key
  enc : ∀ k : κ, toD k = keyD (key k)
  inj : ∀ a b : κ, key a = key b → a = b
  nt : DKey.tk κ = false
instance : KeyK Int := ⟨.inl, fun _ => rfl, fun a b h => by cases h; rfl, rfl⟩
instance : KeyK PStr := ⟨fun x => .inr x.1, fun _ => rfl, fun a b h => Subtype.ext (by cases a; cases b; cases h; rfl), rfl⟩
section
variable {κ α : Type} [Enc κ] [DecidableEq κ] [DKey κ] [Enc α] [KeyK κ] {K : PySem.W.Frag} {F H : Hp}
abbrev encP (l : List (κ × α)) : List (PyData × PyData) := l.map fun p => (toD p.1, toD p.2)
theorem dict_enc (d : Dict κ α) : toD d = .dict ((.bool false, .none) :: encP d.l) := by
  show PyData.dict ((.bool (DKey.tk κ), .none) :: _) = _
  rw [KeyK.nt]
theorem keyD_inj : ∀ {a b : Key}, keyD a = keyD b → a = b
  | .inl _, .inl _, h => by cases h; rfl
  | .inr _, .inr _, h => by cases h; rfl
  | .inl _, .inr _, h => nomatch h
  | .inr _, .inl _, h => nomatch h
theorem key_v {v : V} {k : κ} (r : Rp K F v (toD k)) : v = kV (KeyK.key k) := by
  rw [KeyK.enc] at r
  cases e : KeyK.key k with
  | inl i => rw [e] at r; exact Rp.int_of r
  | inr x => rw [e] at r; exact Rp.str_of r
theorem rpk_cons {kvs : List (Key × V)} {p : κ × α} {l : List (κ × α)} (r : RpK K F kvs (encP (p :: l))) : ∃ v rest, kvs = (KeyK.key p.1, v) :: rest ∧ Rp K F v (toD p.2) ∧ RpK K F rest (encP l) := by
  have r' : RpK K F kvs ((toD p.1, toD p.2) :: encP l) := r
  rw [KeyK.enc] at r'
  generalize ek : keyD (KeyK.key p.1) = kd at r'
  cases r' with
  | @cons k v rest d ds h1 h2 => exact ⟨v, rest, by rw [keyD_inj ek], h1, h2⟩
theorem rpk_mk {v : V} {rest : List (Key × V)} {p : κ × α} {l : List (κ × α)} (h1 : Rp K F v (toD p.2)) (h2 : RpK K F rest (encP l)) : RpK K F ((KeyK.key p.1, v) :: rest) (encP (p :: l)) := by
  show RpK K F _ ((toD p.1, toD p.2) :: encP l)
  rw [KeyK.enc]
  exact .cons h1 h2
theorem rpk_nil {kvs : List (Key × V)} (r : RpK K F kvs (encP ([] : List (κ × α)))) : kvs = [] := by cases r; rfl
theorem rpk_keys : ∀ {kvs : List (Key × V)} {l : List (κ × α)}, RpK K F kvs (encP l) → kvs.map (·.1) = l.map fun p => KeyK.key p.1
  | _, [], r => by rw [rpk_nil r]; rfl
  | _, p :: l, r => by
    obtain ⟨v, rest, rfl, _, h2⟩ := rpk_cons r
    rw [List.map_cons, List.map_cons, rpk_keys h2]
theorem rpk_len {kvs : List (Key × V)} {l : List (κ × α)} (r : RpK K F kvs (encP l)) : kvs.length = l.length := by
  have := congrArg List.length (rpk_keys r)
  simpa using this
theorem key_dec (a b : κ) : decide (KeyK.key a = KeyK.key b) = decide (a = b) := by
  by_cases h : a = b
  · subst h; simp
  · rw [decide_eq_false h, decide_eq_false fun e => h (KeyK.inj a b e)]
theorem rpk_val (k : κ) : ∀ {kvs : List (Key × V)} {l : List (κ × α)}, RpK K F kvs (encP l) → match valP l k with
    | some x => ∃ v, valV kvs (KeyK.key k) = some v ∧ Rp K F v (toD x)
    | none => valV kvs (KeyK.key k) = none
  | _, [], r => by rw [rpk_nil r]; rfl
  | _, p :: l, r => by
    obtain ⟨v, rest, rfl, h1, h2⟩ := rpk_cons r
    have ih := rpk_val k h2
    unfold valP at ih ⊢
    rw [List.find?_cons]
    by_cases h : p.1 = k
    · subst h
      simp only [decide_true, Option.map_some]
      exact ⟨v, valV_pos rfl, h1⟩
    · rw [decide_eq_false h, valV_neg fun e => h (KeyK.inj _ _ e)]
      exact ih
theorem rpk_any (k : κ) {kvs : List (Key × V)} {l : List (κ × α)} (r : RpK K F kvs (encP l)) : (kvs.any fun kv => decide (kv.1 = KeyK.key k)) = l.any fun p => decide (p.1 = k) := by
  have e := rpk_keys r
  have h1 : (kvs.any fun kv => decide (kv.1 = KeyK.key k)) = (kvs.map (·.1)).any fun z => decide (z = KeyK.key k) := by rw [List.any_map]; rfl
  have h2 : (l.any fun p => decide (p.1 = k)) = (l.map fun p => KeyK.key p.1).any fun z => decide (z = KeyK.key k) := by
    rw [List.any_map]
    congr 1
    funext p
    exact (key_dec p.1 k).symm
  rw [h1, h2, e]
theorem rpk_repl (k : κ) (x : α) {v : V} (rv : Rp K F v (toD x)) : ∀ {kvs : List (Key × V)} {l : List (κ × α)}, RpK K F kvs (encP l) → RpK K F (kvs.map fun kv => if kv.1 = KeyK.key k then (kv.1, v) else kv) (encP (l.map fun p => if p.1 = k then (p.1, x) else p))
  | _, [], r => by rw [rpk_nil r]; exact .nil
  | _, p :: l, r => by
    obtain ⟨u, rest, rfl, h1, h2⟩ := rpk_cons r
    have ih := rpk_repl k x rv h2
    rw [List.map_cons, List.map_cons]
    by_cases h : p.1 = k
    · subst h
      rw [if_pos rfl, if_pos rfl]
      exact rpk_mk (p := (p.1, x)) rv ih
    · rw [if_neg h, if_neg fun e => h (KeyK.inj _ _ e)]
      exact rpk_mk h1 ih
theorem rpk_snoc (k : κ) (x : α) {v : V} (rv : Rp K F v (toD x)) : ∀ {kvs : List (Key × V)} {l : List (κ × α)}, RpK K F kvs (encP l) → RpK K F (kvs ++ [(KeyK.key k, v)]) (encP (l ++ [(k, x)]))
  | _, [], r => by rw [rpk_nil r]; exact rpk_mk (p := (k, x)) rv (show RpK K F [] (encP []) from .nil)
  | _, p :: l, r => by
    obtain ⟨u, rest, rfl, h1, h2⟩ := rpk_cons r
    rw [List.cons_append, List.cons_append]
    exact rpk_mk h1 (rpk_snoc k x rv h2)
theorem rpk_put (k : κ) (x : α) {v : V} {kvs : List (Key × V)} {l : List (κ × α)} (rv : Rp K F v (toD x)) (r : RpK K F kvs (encP l)) : RpK K F (putK kvs (KeyK.key k) v) (encP (putP l k x)) := by
  unfold putK putP
  rw [rpk_any k r]
  by_cases h : (l.any fun p => decide (p.1 = k)) = true
  · rw [if_pos h, if_pos h]; exact rpk_repl k x rv r
  · rw [if_neg h, if_neg h]; exact rpk_snoc k x rv r
/-- a dict that may be read -/
theorem RpH.dk_of {v : V} {d : Dict κ α} (s : Sub F H) (r : RpH K F H v (toD d)) : ∃ a kvs, v = .ref a ∧ Rd H a (.dK kvs) ∧ RpK K F kvs (encP d.l) := by
  rw [dict_enc] at r
  rcases r with r | ⟨a, e, c⟩
  · cases r with
    | @dk a o kvs ds h1 h2 => exact ⟨a, kvs, rfl, .inr ⟨o, s _ _ h1⟩, h2⟩
  · obtain ⟨_, ⟨_, _, _, _, q⟩ | ⟨kvs, ds, h1, h2, q⟩ | ⟨_, _, _, _, q⟩⟩ := c <;> cases q
    exact ⟨a, kvs, e, .inl h1, h2⟩
theorem Rp.dk_of {v : V} {d : Dict κ α} (r : Rp K F v (toD d)) : ∃ a o kvs, v = .ref a ∧ F a = some (.frz o (.dK kvs)) ∧ RpK K F kvs (encP d.l) := by
  rw [dict_enc] at r
  cases r with
  | @dk a o kvs ds h1 h2 => exact ⟨a, o, kvs, rfl, h1, h2⟩
end
section
variable {X : Cx} {W : WX} {ρ : Rs} {pos : Pos} {κ α β γ δ S τ Ω : Type} [Enc κ] [DecidableEq κ] [DKey κ] [KeyK κ] [Enc α] [Enc β] [Enc γ] [Enc δ]
theorem getR_no {d : Dict κ α} {k : κ} {c : Str} {i : Int} : d.getR k ≠ .exc c i := by unfold Dict.getR; split <;> intro h <;> cases h
/-- d[k] -/
theorem XV.dget {o i : Expr} {mo : Res (Dict κ α)} {mk : Res κ} (hu : X.A.units + 64 < cLine) (ho : XW X W ρ o mo) (hi : XV X W ρ i mk) (hs : NoSl i := by intro _ _; rfl) : XV X W ρ (.Subscript o i pos) (do
    let d ← mo
    let k ← mk
    d.getR k) := by
  refine PE.imp (pe_dget (by omega) ho hi hs) fun σ H Q ⟨F0, H0, F, R, p⟩ => ⟨F0, H0, F, R, ?_⟩
  cases mo with
  | exc c i => exact p
  | stuck => exact p
  | ok d =>
    intro v F1 H1 g1 r1
    refine ⟨F0, H0, F1, R.grow g1, ?_⟩
    have p1 := PostV.grow g1 p
    cases mk with
    | exc c i => exact p1
    | stuck => exact p1
    | ok k =>
      intro u F2 H2 g2 r2
      have p2 : PostV X.K W F2 H2 ((d.getR k).map toD) Q := PostV.grow g2 p1
      obtain ⟨a, kvs, rfl, h1, h2⟩ := (r1.grow g2).dk_of g2.fh
      obtain rfl := key_v r2
      have q := rpk_val k h2
      unfold Dict.getR at p2
      cases e : valP d.l k with
      | none => rw [e] at p2; exact p2.elim
      | some x =>
        rw [e] at p2 q
        obtain ⟨w, e1, e2⟩ := q
        exact ⟨a, w, rfl, .inl ⟨kvs, _, h1, rfl, e1.symm⟩, p2 w F2 H2 (.refl g2.fh) e2⟩
/-- k in d -/
theorem c_inD (hu : X.A.units + 64 < cLine) : CmpOk X .In (fun (k : κ) (d : Dict κ α) => d.has k) := fun pins s σ H vx vy u1 u2 Q I r1 r2 ⟨F, k, d, sf, q1, q2, q⟩ => by
  obtain ⟨a, kvs, rfl, h1, h2⟩ := q2.dk_of sf
  obtain rfl : vx = kV (KeyK.key k) := by
    rcases q1 with q1 | ⟨b, e, c⟩
    · exact key_v q1
    · rw [KeyK.enc] at c
      obtain ⟨_, ⟨_, _, _, _, z⟩ | ⟨_, _, _, _, z⟩ | ⟨_, _, _, _, z⟩⟩ := c <;> cases e2 : KeyK.key k <;> rw [e2] at z <;> cases z
  obtain rfl : u2 = Value.ref a := r2
  have hq := rpk_val k h2
  refine d_in (o := valV kvs (KeyK.key k)) (by omega) I (.inl ⟨kvs, _, h1, rfl, rfl⟩) r1 fun s' I' => ⟨.bl _, H, I', rfl, ?_⟩
  have e : (valV kvs (KeyK.key k)).isSome = d.has k := by
    unfold Dict.has
    cases e : valP d.l k with
    | none => rw [e] at hq; rw [hq]; rfl
    | some x => rw [e] at hq; obtain ⟨w, e1, _⟩ := hq; rw [e1]; rfl
  rw [e]; exact q
theorem c_notinD (hu : X.A.units + 64 < cLine) : CmpOk X .NotIn (fun (k : κ) (d : Dict κ α) => !d.has k) := fun pins s σ H vx vy u1 u2 Q I r1 r2 ⟨F, k, d, sf, q1, q2, q⟩ => by
  obtain ⟨a, kvs, rfl, h1, h2⟩ := q2.dk_of sf
  obtain rfl : vx = kV (KeyK.key k) := by
    rcases q1 with q1 | ⟨b, e, c⟩
    · exact key_v q1
    · rw [KeyK.enc] at c
      obtain ⟨_, ⟨_, _, _, _, z⟩ | ⟨_, _, _, _, z⟩ | ⟨_, _, _, _, z⟩⟩ := c <;> cases e2 : KeyK.key k <;> rw [e2] at z <;> cases z
  obtain rfl : u2 = Value.ref a := r2
  have hq := rpk_val k h2
  refine d_notIn (o := valV kvs (KeyK.key k)) (by omega) I (.inl ⟨kvs, _, h1, rfl, rfl⟩) r1 fun s' I' => ⟨.bl _, H, I', rfl, ?_⟩
  have e : (valV kvs (KeyK.key k)).isSome = d.has k := by
    unfold Dict.has
    cases e : valP d.l k with
    | none => rw [e] at hq; rw [hq]; rfl
    | some x => rw [e] at hq; obtain ⟨w, e1, _⟩ := hq; rw [e1]; rfl
  rw [e]; exact q
/-- {} -/
theorem XF.dnil : XF X W ρ (.Dict [] [] pos) (.ok (⟨[]⟩ : Dict κ α)) := PE.imp pe_dnewK fun σ H Q ⟨F0, H0, F, R, p⟩ q nq =>
  p q F _ (.own R.fh nq) nq ⟨sub_free R.fh nq, .inr (.inl ⟨[], _, upd_same, .nil, dict_enc _⟩)⟩
/-- {k: v} -/
theorem XF.disp1 {k v : Expr} {mk : Res κ} {mv : Res α} (hk : XV X W ρ k mk) (hv : XV X W ρ v mv) : XF X W ρ (.Dict [some k] [v] pos) (do
    let a ← mk
    let b ← mv
    Res.ok (⟨[(a, b)]⟩ : Dict κ α)) := by
  refine PE.imp (pe_disp (pps_cons hk hv pps_nil) rfl rfl (by simp) (by simp)) fun σ H Q ⟨F0, H0, F, R, p⟩ q nq => ?_
  have g0 : Grow F H F (upd H q (.dK [])) := .own R.fh nq
  refine ⟨F0, H0, F, R.grow g0, ?_⟩
  cases mk with
  | exc c i => exact excG g0 p
  | stuck => exact p
  | ok a =>
    intro x F1 H1 g1 r1
    refine ⟨F0, H0, F1, (R.grow g0).grow g1, ?_⟩
    cases mv with
    | exc c i => exact excG (g0.trans g1) p
    | stuck => exact p
    | ok b =>
      intro y F2 H2 g2 r2
      have g := g1.trans g2
      have hq : H2 q = some (.dK []) := g.h _ _ upd_same
      have fq : F2 q = none := by rw [g.fn q (by rw [upd_same]; exact .dK)]; exact sub_free R.fh nq
      obtain rfl := key_v r1
      refine ⟨hq, [(KeyK.key a, y)], rfl, by simp, ?_⟩
      have g3 : Grow F H F2 (upd H2 q (.dK (mergeK [] [(KeyK.key a, y)]))) := ⟨fun b o e => g.f b o e, fun b o e => by rw [upd_ne (ne_of_none e nq)]; exact g.h b o (by rw [upd_ne (ne_of_none e nq)]; exact e),
        fun b o e => by rw [upd_ne (ne_of_none e fq)]; exact g.fh b o e, fun b hb => by
          refine g.fn b ?_
          by_cases h : b = q
          · subst h; rw [upd_same]; exact .dK
          · rw [upd_ne h]; exact hb⟩
      refine p q F2 _ g3 nq ⟨fq, .inr (.inl ⟨_, _, upd_same, ?_, dict_enc _⟩)⟩
      have e : mergeK [] [(KeyK.key a, y)] = [(KeyK.key a, y)] := by simp [mergeK, putK]
      rw [e]
      exact rpk_mk (p := (a, b)) r2 (show RpK X.K F2 [] (encP []) from .nil)
/-- dict(d) -/
theorem b_dict : C1F X (.type "dict") (fun d : Dict κ α => Res.ok d) := ⟨CallR.imp call_dictD fun vs H Q ⟨F, x, z, v, s, e, r, ez, q⟩ => by
  cases ez
  obtain ⟨a, kvs, rfl, h1, h2⟩ := r.dk_of s
  exact ⟨a, kvs, e, h1, fun l nl => q l F _ (.own s nl) nl ⟨sub_free s nl, .inr (.inl ⟨_, _, upd_same, h2, dict_enc _⟩)⟩⟩, fun _ _ _ e => by cases e⟩
theorem rpk_kall {K : PySem.W.Frag} {F : Hp} : ∀ {kvs : List (Key × V)} {l : List (κ × α)}, RpK K F kvs (encP l) → RpAll K F (kvs.map fun kv => kV kv.1) ((l.map (·.1)).map toD)
  | _, [], r => by rw [rpk_nil r]; exact .nil
  | _, p :: l, r => by
    obtain ⟨v, rest, rfl, _, h2⟩ := rpk_cons r
    refine .cons ?_ (rpk_kall h2)
    rw [KeyK.enc]
    cases KeyK.key p.1 with
    | inl i => exact .int i
    | inr x => exact .str x
/-- list(d) -/
theorem b_listD (hc : X.calm = true) : C1F X (.type "list") (fun d : Dict κ α => Res.ok d.keys) := ⟨CallR.imp (call_listD hc) fun vs H Q ⟨F, x, z, v, s, e, r, ez, q⟩ => by
  cases ez
  obtain ⟨a, kvs, rfl, h1, h2⟩ := r.dk_of s
  exact ⟨a, kvs, e, h1, fun l nl => q l F _ (.own s nl) nl ⟨sub_free s nl, .inl ⟨_, _, upd_same, rpk_kall h2, rfl⟩⟩⟩, fun _ _ _ e => by cases e⟩
theorem putR_no {d : Dict κ α} {k : κ} {x : α} {c : Str} {i : Int} : d.putR k x ≠ .exc c i := by unfold Dict.putR; split <;> intro h <;> cases h
/-- d[k] = v, d this name's own -/
theorem XB.dput (k i : Nat) (ks : List Nat) {nm : Str} {e ix : Expr} {p1 p2 : Pos} {d : Dict κ α} {rest : List Stmt} {me : Res α} {mk : Res κ} {mr : Dict κ α → Res τ} {fin : τ → Fi} (ρ' : Dict κ α → Rs) (hu : X.A.units + 64 < cLine) (hk : ρ[k]? = some (i, SV.ow (toD d))) (he : XV X W ρ e me) (hi : XV X W ρ ix mk)
    (hr : ∀ ys, XB X W (ρ' ys) rest (mr ys) fin) (hρ : ∀ ys, ρ' ys = (i, SV.ow (toD ys)) :: keepAt ρ ks := by intro _; rfl) (ho : okK ρ [i] ks = true := by rfl) (hN : X.N[i]? = some nm := by rfl) (hv : Vis X.env.scope nm := by first | exact Or.inl rfl | exact Or.inr (Or.inl rfl) | exact Or.inr (Or.inr rfl))
    (hd : (nm == ("__debug__" : Str)) = false := by decide) (hcd : (nm == ("__classdict__" : Str)) = false := by decide) (hs : swapsWith e (some (.Subscript (.Name nm p1) ix p2)) pos.line X.env = pure false := by rfl) :
    XB X W ρ (.Assign [.Subscript (.Name nm p1) ix p2] e pos :: rest) (do
    let x ← me
    let k ← mk
    let ys ← d.putR k x
    mr ys) fin := by
  refine PSs.imp (pss_cons (ps_dput (by omega) (pe_var hN hv hd hcd) hi he hs) (PSs.ex hr)) fun D σ H ⟨F0, H0, F, R, p⟩ => ⟨F0, H0, F, R, ?_⟩
  have q := PostS.bind R p
  cases me with
  | exc c i => exact q
  | stuck => exact q
  | ok x =>
    intro v F1 H1 g1 r1
    have R1 := R.grow g1
    have p1 : PostS X.K X.N.length W F0 H0 F1 (mk >>= fun k => d.putR k x >>= mr) fin D := PostS.sub g1.f p
    have hm := List.mem_of_getElem? hk
    obtain ⟨a, ea, c, z⟩ := R1.ow i _ hm
    refine ⟨.ref a, ea, F0, H0, F1, R1, ?_⟩
    have q1 := PostS.bind R1 p1
    cases mk with
    | exc c i => exact q1
    | stuck => exact q1
    | ok kk =>
      intro y F2 H2 g2 r2
      have R2 := R1.grow g2
      have p2 := PostS.sub g2.f p1
      have c2 := c.grow g2
      rw [dict_enc] at c2
      obtain ⟨fa, ⟨_, _, _, _, w⟩ | ⟨kvs, ds, h1, h2, w⟩ | ⟨_, _, _, _, w⟩⟩ := id c2 <;> cases w
      obtain rfl := key_v r2
      have p3 : PostS X.K X.N.length W F0 H0 F2 (d.putR kk x >>= mr) fin D := p2
      cases ep : d.putR kk x with
      | exc c i => exact absurd ep putR_no
      | stuck => rw [ep] at p3; exact p3.elim
      | ok ys =>
        rw [ep] at p3
        unfold Dict.putR at ep
        split at ep
        · rename_i hl
          cases ep
          have hlen : kvs.length < sizeLine := by rw [rpk_len h2, ← lim_line]; exact hl
          refine ⟨a, upd H2 a (.dK (putK kvs (KeyK.key kk) v)), rfl, .k h1 hlen, ⟨putP d.l kk x⟩, F0, H0, F2, ?_, p3⟩
          exact R2.mut hm ea ⟨fa, .inr (.inl ⟨_, _, upd_same, rpk_put kk x (r1.sub g2.f) h2, dict_enc _⟩)⟩ (by rw [hρ]; exact put_w ho)
        · cases ep
/-- for k in d -/
theorem it_keys {K : PySem.W.Frag} {F : Hp} {a : Addr} {o : Obj} {kvs : List (Key × V)} {l : List (κ × α)} (e : F a = some (.frz o (.dK kvs))) (r : RpK K F kvs (encP l)) : ItOk K (Itk a o kvs) F ((l.map (·.1)).map toD) := by
  have hl : kvs.length = l.length := rpk_len r
  have ra := rpk_kall r
  refine ⟨fun i F1 H1 s1 s2 hi => ?_, fun i F1 H1 d x H2 s1 s2 hd hy => ?_, fun i F1 H1 s1 s2 hi => ?_⟩
  · exact ⟨s2 _ _ (s1 _ _ e), by simpa [hl] using hi⟩
  · obtain ⟨rfl, k, v, hk, rfl⟩ := hy
    refine ⟨F1, .refl s2, ?_⟩
    obtain ⟨v', h1, h2⟩ := ra.get hd
    rw [List.getElem?_map, hk] at h1
    cases h1
    exact h2.sub s1
  · exact ⟨s2 _ _ (s1 _ _ e), by simpa [hl] using hi⟩
theorem XI.keys {tg e : Expr} {m : Res (Dict κ α)} (he : XV X W ρ e m) : XI X W ρ tg e (do
    let d ← m
    Res.ok d.keys) := by
  refine ⟨fun pins s σ H R I ⟨F0, H0, F, Rh, p⟩ => ?_⟩
  cases m with
  | exc c i => exact (pi_keys (tg := tg) he).run pins s σ H R I ⟨F0, H0, F, Rh, p⟩
  | stuck => exact p.elim
  | ok d =>
    refine (pi_keys (tg := tg) (td := fun σ H Q => rdV X.K X.N.length W ρ (.ok (toD d)) σ H fun v H1 => (∀ a o kvs, H1 a = some (.frz o (.dK kvs)) → kvs.length ≤ sizeLine) → Q v H1) ?_).run pins s σ H R I ⟨F0, H0, F, Rh, fun v F1 H1 g r hz => ?_⟩
    · exact ⟨fun pins s σ H Q I q => thn (he.run pins s σ H _ I q) fun u s1 ⟨v, H1, I1, r, q1⟩ => ⟨v, H1, I1, r, q1 fun a o kvs e => by
        obtain ⟨hs, hgd, hx, es, ep, vs, hdt, hsz, kv, hm⟩ := I1.frzK e
        exact (dk_rd I1.hok (.inr ⟨o, e⟩)).1⟩⟩
    · obtain ⟨a, o, kvs, rfl, h1, h2⟩ := r.dk_of
      refine ⟨a, o, rfl, .inl ⟨kvs, g.fh _ _ h1, p _ F1 H1 g (it_keys h1 h2) ?_⟩⟩
      have := hz a o kvs (g.fh _ _ h1)
      rw [List.length_map]
      unfold Dict.keys
      rw [List.length_map, ← rpk_len h2]
      exact this
end
end Vs
end
section
set_option Elab.async false
set_option linter.all false
set_option maxRecDepth 100000
set_option maxHeartbeats 1000000
/-! Vs11: defs of one to eight parameters, their calls; casts; the script. -/
namespace Vs
open Enc (toD)
open PySem PySem.Spec PyProof.Rows L2
section
variable {X : Cx} {W : WX} {ρ : Rs} {pos : Pos} {α β γ S τ Ω : Type} [Enc α] [Enc β] [Enc γ]
/-- a call whose arguments are told by one thing -/
theorem XV.callI {ι : Type} {fa : Addr} {fd : FuncData} {ps : List Str} {k : Nat} {x : Str} {p : Pos} {e : Expr} {es : List Expr} {args : ι → List PyData} {f : ι → Res β} {mm : Res ι} (G : FnV X.prog X.w X.K X.mg X.base k fa fd ps (fun ds r => ∃ i, ds = args i ∧ r = (f i).map toD))
    (hr : GRoom k X.A) (tk : Takes X W) (hm : X.mg x = some (.ref fa)) (hk : PySem.W.keepIn X.K (.ref fa) = true) (hb : Binds X.K fd ps []) (ha : XA X W ρ (e :: es) (mm.map args)) (hg : Gl X x := by rfl)
    (hdb : (x == ("__debug__" : Str)) = false := by decide) (he : starEach (e :: es) X.env = (false, eval e X.env) :: starEach es X.env := by rfl) (hpl : (backTo pos (starEach es X.env)).any (·.1) = false := by rfl) :
    XV X W ρ (.Call (.Name x p) (e :: es) [] pos) (mm >>= f) := by
  refine PE.imp (pe_callG (E := fun c d H => ∀ σ, W c d σ H) G hr hg hm hk hb (passes_call tk fun c d σ H h => h σ) ha hdb he hpl) fun σ H Q ⟨F0, H0, F, Rh, p⟩ => ⟨F0, H0, F, Rh, ?_⟩
  cases mm with
  | exc c i => exact p
  | stuck => exact p
  | ok i =>
    intro vs F1 H1 g1 r1
    have p1 : PostV X.K W F1 H1 ((f i).map toD) Q := PostV.grow g1 p
    refine ⟨F1, args i, (f i).map toD, ⟨i, rfl, rfl⟩, g1.fh, r1, ?_⟩
    cases er : (f i).map toD with
    | ok d => rw [er] at p1; exact p1
    | exc c i => rw [er] at p1; exact fun dx F' H' σ' g x n σ => p1 dx F' H' σ g x n
    | stuck => rw [er] at p1; exact p1
/-- the promise of a call -/
structure FnC (K : PySem.W.Frag) (mg : Str → Option Value) (x : Str) (fa : Addr) (fd : FuncData) (ps : List Str) : Prop where
  mg : mg x = some (.ref fa)
  kp : PySem.W.keepIn K (.ref fa) = true
  bn : Binds K fd ps []
/-- a constant of the module -/
theorem XV.globI {x : Str} {i : Int} (hm : ∃ t, X.mg x = some (.int i t)) (hg : Gl X x := by rfl) (hd : (x == ("__debug__" : Str)) = false := by decide) : XV X W ρ (.Name x pos) (.ok i) := by
  obtain ⟨t, hm⟩ := hm
  exact XV.glob (v := .int i) hg hm ⟨t, rfl⟩ (fun F => .int i) hd
/-- the end of a block -/
theorem XB.nilT {fin : τ → Fi} {t : τ} {ρ' : Rs} (ht : fin t = .nx ρ') (w : ∀ p ∈ ρ', p ∈ ρ) : XB X W ρ [] (.ok t) fin :=
  PSs.imp pss_nil fun D σ H ⟨F0, H0, F, R, p⟩ => by
    have p' : (match fin t with
      | .nx ρ' => ∀ σ' F' H', Rho X.K X.N.length F0 H0 F' H' σ' ρ' → Sub F F' → D.nx σ' H'
      | .rt d => ∀ v F' H', Grow F0 H0 F' H' → Rp X.K F' v d → D.rt v H'
      | .bk ρ' => ∀ σ' F' H', Rho X.K X.N.length F0 H0 F' H' σ' ρ' → Sub F F' → D.bk σ' H') := p
    rw [ht] at p'
    exact p' σ F H (R.weak w) fun _ _ e => e
/-- casts: a kind of two, told -/
theorem XV.inlC {e : Expr} {m : Res α} (h : XV X W ρ e m) : XV X W ρ e (do
    let x ← m
    Res.ok (Sum.inl x : α ⊕ β)) := PE.imp h fun σ H Q ⟨F0, H0, F, R, p⟩ => ⟨F0, H0, F, R, by cases m <;> exact p⟩
theorem XV.inrC {e : Expr} {m : Res β} (h : XV X W ρ e m) : XV X W ρ e (do
    let x ← m
    Res.ok (Sum.inr x : α ⊕ β)) := PE.imp h fun σ H Q ⟨F0, H0, F, R, p⟩ => ⟨F0, H0, F, R, by cases m <;> exact p⟩
def asL : α ⊕ β → Res α
  | .inl a => .ok a
  | .inr _ => .stuck
def asR : α ⊕ β → Res β
  | .inl _ => .stuck
  | .inr b => .ok b
def unO : Option α → Res α
  | some a => .ok a
  | none => .stuck
theorem XV.asL {e : Expr} {m : Res (α ⊕ β)} (h : XV X W ρ e m) : XV X W ρ e (do
    let x ← m
    asL x) := PE.imp h fun σ H Q ⟨F0, H0, F, R, p⟩ => ⟨F0, H0, F, R, by
  cases m with
  | exc c i => exact p
  | stuck => exact p
  | ok x => cases x with
    | inl a => exact p
    | inr b => exact False.elim p⟩
theorem XV.asR {e : Expr} {m : Res (α ⊕ β)} (h : XV X W ρ e m) : XV X W ρ e (do
    let x ← m
    asR x) := PE.imp h fun σ H Q ⟨F0, H0, F, R, p⟩ => ⟨F0, H0, F, R, by
  cases m with
  | exc c i => exact p
  | stuck => exact p
  | ok x => cases x with
    | inl a => exact False.elim p
    | inr b => exact p⟩
theorem XV.unO {e : Expr} {m : Res (Option α)} (h : XV X W ρ e m) : XV X W ρ e (do
    let x ← m
    unO x) := PE.imp h fun σ H Q ⟨F0, H0, F, R, p⟩ => ⟨F0, H0, F, R, by
  cases m with
  | exc c i => exact p
  | stuck => exact p
  | ok x => cases x with
    | none => exact False.elim p
    | some a => exact p⟩
/-! ### the script -/
theorem RpH.scr_of {K : PySem.W.Frag} {F H : Hp} {v : V} {x : Scr} (s : Sub F H) (r : RpH K F H v (toD x)) : ∃ a, v = .ref a ∧ SqL K H a (x.l.map V.int) := by
  rcases r with r | ⟨a, e, c⟩
  · have r' : Rp K F v (.dict [(.none, .list (x.l.map toD))]) := r
    cases r' with
    | scr h1 h2 =>
      rw [ints_of h2] at h1
      exact ⟨_, rfl, sub_seqL s h1⟩
  · have c' : Cell K F H a (.dict [(.none, .list (x.l.map toD))]) := c
    obtain ⟨_, ⟨_, _, _, _, q⟩ | ⟨_, _, _, _, q⟩ | ⟨_, _, _, _, q⟩⟩ := c' <;> cases q
theorem b_lenScr : C1 X (.builtin "len") (fun x : Scr => Res.ok (lenL x.l)) := ⟨CallR.imp call_len_seq fun vs H Q ⟨F, x, z, v, s, e, r, ez, q⟩ => by
  cases ez
  obtain ⟨a, rfl, h1⟩ := r.scr_of s
  refine ⟨a, _, e, .inl h1, ?_⟩
  rw [List.length_map]
  exact q _ F H (.refl s) (.int _), fun _ _ _ e => by cases e⟩
theorem getL_noS {xs : List Int} {k : Int} {c : Str} {i : Int} : getL xs k ≠ .exc c i := getL_no
/-- script[i] -/
theorem XV.idxScr {o i : Expr} {mo : Res Scr} {mi : Res Int} (ho : XW X W ρ o mo) (hi : XV X W ρ i mi) (hs : PlainIx i := by exact fun _ _ => rfl) : XV X W ρ (.Subscript o i pos) (do
    let xs ← mo
    let k ← mi
    getL xs.l k) := by
  refine PE.imp (pe_ix ix_list ho hi hs) fun σ H Q ⟨F0, H0, F, R, p⟩ => ⟨F0, H0, F, R, ?_⟩
  cases mo with
  | exc c i => exact p
  | stuck => exact p
  | ok xs =>
    intro v F1 H1 g1 r1
    refine ⟨F0, H0, F1, R.grow g1, ?_⟩
    have p1 := PostV.grow g1 p
    cases mi with
    | exc c i => exact p1
    | stuck => exact p1
    | ok k =>
      intro u F2 H2 g2 r2
      have p2 : PostV X.K W F2 H2 ((getL xs.l k).map toD) Q := PostV.grow g2 p1
      obtain ⟨a, rfl, h1⟩ := (r1.grow g2).scr_of g2.fh
      cases e : getL xs.l k with
      | exc c i => exact absurd e getL_noS
      | stuck => rw [e] at p2; exact p2.elim
      | ok x =>
        rw [e] at p2
        obtain ⟨w, h3, h4⟩ := at_of (K := X.K) (F := F2) (rp_ints xs.l) e
        exact ⟨a, _, k, w, rfl, r2.int_of, h1, h3, p2 w F2 H2 (.refl g2.fh) h4⟩
end

section
variable {α1 : Type} [Enc α1] {β : Type} [Enc β]
abbrev Rn1 (f : α1 → Res β) : List PyData → Res PyData → Prop := fun ds r => ∃ x1, ds = [toD x1] ∧ r = (f x1).map toD
theorem fn1 {P : Program} {w : World} {K : PySem.W.Frag} {mg : Str → Option Value} {base : Heap} {x qual : Str} {params : Arguments} {body : List Stmt} {scope : Scope} {fa : Addr} {fd : FuncData} {N ps : List Str} {k : Nat} {f : α1 → Res β}
    (F : FunD K x qual params body scope [] [] fa fd) (S : FnScope N ps scope) (hps : ps.length = 1 := by rfl) (hl : ps.length ≤ N.length := by decide)
    (hbody : ∀ (cdv : Value) (A : Around) (outer : List Env) (s : Shared) (H : Hp) (E : XK), GRoom k (A.deeper (envOfC qual scope s.heap.objs.size fa cdv)) → ∀ x1,
      XB (defX P w K mg base N qual scope fa cdv A outer s H E) (defW E) [(0, SV.sh (toD x1))] body (f x1) (fun b => .rt (toD b))) : FnV P w K mg base (k + 1) fa fd ps (Rn1 f) := by
  refine fn_def (τ := fun _ _ => Unit) F S (fun ds r ⟨x1, e, _⟩ => by rw [e, hps]; rfl) hl fun cdv A outer s H E hr ds r ⟨x1, e1, e2⟩ => ?_
  subst e1 e2
  exact ⟨β, f x1, _, hbody cdv A outer s H E hr x1, fun c j e => by rw [e]; rfl, fun e => by rw [e]; rfl, fun t e => .inl ⟨toD t, rfl, by rw [e]; rfl⟩⟩
theorem fn1p {P : Program} {w : World} {K : PySem.W.Frag} {mg : Str → Option Value} {base : Heap} {x qual : Str} {params : Arguments} {body : List Stmt} {scope : Scope} {fa : Addr} {fd : FuncData} {N ps : List Str} {k : Nat} {f : α1 → Res Unit}
    (F : FunD K x qual params body scope [] [] fa fd) (S : FnScope N ps scope) (hps : ps.length = 1 := by rfl) (hl : ps.length ≤ N.length := by decide)
    (hbody : ∀ (cdv : Value) (A : Around) (outer : List Env) (s : Shared) (H : Hp) (E : XK), GRoom k (A.deeper (envOfC qual scope s.heap.objs.size fa cdv)) → ∀ x1,
      XB (defX P w K mg base N qual scope fa cdv A outer s H E) (defW E) [(0, SV.sh (toD x1))] body (f x1) (fun _ => .nx [])) : FnV P w K mg base (k + 1) fa fd ps (Rn1 f) := by
  refine fn_def (τ := fun _ _ => Unit) F S (fun ds r ⟨x1, e, _⟩ => by rw [e, hps]; rfl) hl fun cdv A outer s H E hr ds r ⟨x1, e1, e2⟩ => ?_
  subst e1 e2
  exact ⟨Unit, f x1, _, hbody cdv A outer s H E hr x1, fun c j e => by rw [e]; rfl, fun e => by rw [e]; rfl, fun t e => .inr ⟨[], rfl, by rw [e]; rfl⟩⟩
theorem XV.fn1 {X : Cx} {W : WX} {ρ : Rs} {pos : Pos} {k : Nat} {x : Str} {fa : Addr} {fd : FuncData} {ps : List Str} {p : Pos} {e1 : Expr} {f : α1 → Res β} {m1 : Res α1} (G : FnV X.prog X.w X.K X.mg X.base k fa fd ps (Rn1 f)) (C : FnC X.K X.mg x fa fd ps) (hr : GRoom k X.A) (tk : Takes X W)
    (h1 : XV X W ρ e1 m1) (hg : Gl X x := by rfl) (hdb : (x == ("__debug__" : Str)) = false := by decide)
    (s1 : starEach [e1] X.env = (false, eval e1 X.env) :: starEach [] X.env := by rfl) (hpl : (backTo pos (starEach [] X.env)).any (·.1) = false := by rfl) :
    XV X W ρ (.Call (.Name x p) [e1] [] pos) (do
    let x1 ← m1
    f x1) := by
  have G2 : FnV X.prog X.w X.K X.mg X.base k fa fd ps (fun ds r => ∃ i : α1, ds = [toD i] ∧ r = (f i).map toD) := ⟨fun vs H Q E ⟨F, ds, r, ⟨i, e1, e2⟩, q⟩ => G.len vs H Q E ⟨F, ds, r, ⟨i, e1, e2⟩, q⟩, fun A outer s H args us vs Q E hr e0 hb rv ⟨F, ds, r, ⟨i, e1, e2⟩, q⟩ => G.run A outer s H args us vs Q E hr e0 hb rv ⟨F, ds, r, ⟨i, e1, e2⟩, q⟩⟩
  refine (XV.callI (f := fun i => f i) (mm := (do
    let x1 ← m1
    Res.ok x1)) G2 hr tk C.mg C.kp C.bn (XA.eq (XA.cons h1 XA.nil s1) ?_) hg hdb s1 hpl).eq ?_
  · cases m1 with
    | exc c i => rfl
    | stuck => rfl
    | ok y1 =>
      rfl
  · cases m1 with
    | exc c i => rfl
    | stuck => rfl
    | ok y1 =>
      rfl
end
section
variable {α1 : Type} [Enc α1] {α2 : Type} [Enc α2] {β : Type} [Enc β]
abbrev Rn2 (f : α1 → α2 → Res β) : List PyData → Res PyData → Prop := fun ds r => ∃ x1 x2, ds = [toD x1, toD x2] ∧ r = (f x1 x2).map toD
theorem fn2 {P : Program} {w : World} {K : PySem.W.Frag} {mg : Str → Option Value} {base : Heap} {x qual : Str} {params : Arguments} {body : List Stmt} {scope : Scope} {fa : Addr} {fd : FuncData} {N ps : List Str} {k : Nat} {f : α1 → α2 → Res β}
    (F : FunD K x qual params body scope [] [] fa fd) (S : FnScope N ps scope) (hps : ps.length = 2 := by rfl) (hl : ps.length ≤ N.length := by decide)
    (hbody : ∀ (cdv : Value) (A : Around) (outer : List Env) (s : Shared) (H : Hp) (E : XK), GRoom k (A.deeper (envOfC qual scope s.heap.objs.size fa cdv)) → ∀ x1 x2,
      XB (defX P w K mg base N qual scope fa cdv A outer s H E) (defW E) [(0, SV.sh (toD x1)), (1, SV.sh (toD x2))] body (f x1 x2) (fun b => .rt (toD b))) : FnV P w K mg base (k + 1) fa fd ps (Rn2 f) := by
  refine fn_def (τ := fun _ _ => Unit) F S (fun ds r ⟨x1, x2, e, _⟩ => by rw [e, hps]; rfl) hl fun cdv A outer s H E hr ds r ⟨x1, x2, e1, e2⟩ => ?_
  subst e1 e2
  exact ⟨β, f x1 x2, _, hbody cdv A outer s H E hr x1 x2, fun c j e => by rw [e]; rfl, fun e => by rw [e]; rfl, fun t e => .inl ⟨toD t, rfl, by rw [e]; rfl⟩⟩
theorem fn2p {P : Program} {w : World} {K : PySem.W.Frag} {mg : Str → Option Value} {base : Heap} {x qual : Str} {params : Arguments} {body : List Stmt} {scope : Scope} {fa : Addr} {fd : FuncData} {N ps : List Str} {k : Nat} {f : α1 → α2 → Res Unit}
    (F : FunD K x qual params body scope [] [] fa fd) (S : FnScope N ps scope) (hps : ps.length = 2 := by rfl) (hl : ps.length ≤ N.length := by decide)
    (hbody : ∀ (cdv : Value) (A : Around) (outer : List Env) (s : Shared) (H : Hp) (E : XK), GRoom k (A.deeper (envOfC qual scope s.heap.objs.size fa cdv)) → ∀ x1 x2,
      XB (defX P w K mg base N qual scope fa cdv A outer s H E) (defW E) [(0, SV.sh (toD x1)), (1, SV.sh (toD x2))] body (f x1 x2) (fun _ => .nx [])) : FnV P w K mg base (k + 1) fa fd ps (Rn2 f) := by
  refine fn_def (τ := fun _ _ => Unit) F S (fun ds r ⟨x1, x2, e, _⟩ => by rw [e, hps]; rfl) hl fun cdv A outer s H E hr ds r ⟨x1, x2, e1, e2⟩ => ?_
  subst e1 e2
  exact ⟨Unit, f x1 x2, _, hbody cdv A outer s H E hr x1 x2, fun c j e => by rw [e]; rfl, fun e => by rw [e]; rfl, fun t e => .inr ⟨[], rfl, by rw [e]; rfl⟩⟩
theorem XV.fn2 {X : Cx} {W : WX} {ρ : Rs} {pos : Pos} {k : Nat} {x : Str} {fa : Addr} {fd : FuncData} {ps : List Str} {p : Pos} {e1 e2 : Expr} {f : α1 → α2 → Res β} {m1 : Res α1} {m2 : Res α2} (G : FnV X.prog X.w X.K X.mg X.base k fa fd ps (Rn2 f)) (C : FnC X.K X.mg x fa fd ps) (hr : GRoom k X.A) (tk : Takes X W)
    (h1 : XV X W ρ e1 m1) (h2 : XV X W ρ e2 m2) (hg : Gl X x := by rfl) (hdb : (x == ("__debug__" : Str)) = false := by decide)
    (s1 : starEach [e1, e2] X.env = (false, eval e1 X.env) :: starEach [e2] X.env := by rfl) (s2 : starEach [e2] X.env = (false, eval e2 X.env) :: starEach [] X.env := by rfl) (hpl : (backTo pos (starEach [e2] X.env)).any (·.1) = false := by rfl) :
    XV X W ρ (.Call (.Name x p) [e1, e2] [] pos) (do
    let x1 ← m1
    let x2 ← m2
    f x1 x2) := by
  have G2 : FnV X.prog X.w X.K X.mg X.base k fa fd ps (fun ds r => ∃ i : α1 × α2, ds = [toD (i.1), toD (i.2)] ∧ r = (f (i.1) (i.2)).map toD) := ⟨fun vs H Q E ⟨F, ds, r, ⟨i, e1, e2⟩, q⟩ => G.len vs H Q E ⟨F, ds, r, ⟨i.1, i.2, e1, e2⟩, q⟩, fun A outer s H args us vs Q E hr e0 hb rv ⟨F, ds, r, ⟨i, e1, e2⟩, q⟩ => G.run A outer s H args us vs Q E hr e0 hb rv ⟨F, ds, r, ⟨i.1, i.2, e1, e2⟩, q⟩⟩
  refine (XV.callI (f := fun i => f (i.1) (i.2)) (mm := (do
    let x1 ← m1
    let x2 ← m2
    Res.ok (x1, x2))) G2 hr tk C.mg C.kp C.bn (XA.eq (XA.cons h1 (XA.cons h2 XA.nil s2) s1) ?_) hg hdb s1 hpl).eq ?_
  · cases m1 with
    | exc c i => rfl
    | stuck => rfl
    | ok y1 =>
      cases m2 with
      | exc c i => rfl
      | stuck => rfl
      | ok y2 =>
        rfl
  · cases m1 with
    | exc c i => rfl
    | stuck => rfl
    | ok y1 =>
      cases m2 with
      | exc c i => rfl
      | stuck => rfl
      | ok y2 =>
        rfl
end
section
variable {α1 : Type} [Enc α1] {α2 : Type} [Enc α2] {α3 : Type} [Enc α3] {β : Type} [Enc β]
abbrev Rn3 (f : α1 → α2 → α3 → Res β) : List PyData → Res PyData → Prop := fun ds r => ∃ x1 x2 x3, ds = [toD x1, toD x2, toD x3] ∧ r = (f x1 x2 x3).map toD
theorem fn3 {P : Program} {w : World} {K : PySem.W.Frag} {mg : Str → Option Value} {base : Heap} {x qual : Str} {params : Arguments} {body : List Stmt} {scope : Scope} {fa : Addr} {fd : FuncData} {N ps : List Str} {k : Nat} {f : α1 → α2 → α3 → Res β}
    (F : FunD K x qual params body scope [] [] fa fd) (S : FnScope N ps scope) (hps : ps.length = 3 := by rfl) (hl : ps.length ≤ N.length := by decide)
    (hbody : ∀ (cdv : Value) (A : Around) (outer : List Env) (s : Shared) (H : Hp) (E : XK), GRoom k (A.deeper (envOfC qual scope s.heap.objs.size fa cdv)) → ∀ x1 x2 x3,
      XB (defX P w K mg base N qual scope fa cdv A outer s H E) (defW E) [(0, SV.sh (toD x1)), (1, SV.sh (toD x2)), (2, SV.sh (toD x3))] body (f x1 x2 x3) (fun b => .rt (toD b))) : FnV P w K mg base (k + 1) fa fd ps (Rn3 f) := by
  refine fn_def (τ := fun _ _ => Unit) F S (fun ds r ⟨x1, x2, x3, e, _⟩ => by rw [e, hps]; rfl) hl fun cdv A outer s H E hr ds r ⟨x1, x2, x3, e1, e2⟩ => ?_
  subst e1 e2
  exact ⟨β, f x1 x2 x3, _, hbody cdv A outer s H E hr x1 x2 x3, fun c j e => by rw [e]; rfl, fun e => by rw [e]; rfl, fun t e => .inl ⟨toD t, rfl, by rw [e]; rfl⟩⟩
theorem fn3p {P : Program} {w : World} {K : PySem.W.Frag} {mg : Str → Option Value} {base : Heap} {x qual : Str} {params : Arguments} {body : List Stmt} {scope : Scope} {fa : Addr} {fd : FuncData} {N ps : List Str} {k : Nat} {f : α1 → α2 → α3 → Res Unit}
    (F : FunD K x qual params body scope [] [] fa fd) (S : FnScope N ps scope) (hps : ps.length = 3 := by rfl) (hl : ps.length ≤ N.length := by decide)
    (hbody : ∀ (cdv : Value) (A : Around) (outer : List Env) (s : Shared) (H : Hp) (E : XK), GRoom k (A.deeper (envOfC qual scope s.heap.objs.size fa cdv)) → ∀ x1 x2 x3,
      XB (defX P w K mg base N qual scope fa cdv A outer s H E) (defW E) [(0, SV.sh (toD x1)), (1, SV.sh (toD x2)), (2, SV.sh (toD x3))] body (f x1 x2 x3) (fun _ => .nx [])) : FnV P w K mg base (k + 1) fa fd ps (Rn3 f) := by
  refine fn_def (τ := fun _ _ => Unit) F S (fun ds r ⟨x1, x2, x3, e, _⟩ => by rw [e, hps]; rfl) hl fun cdv A outer s H E hr ds r ⟨x1, x2, x3, e1, e2⟩ => ?_
  subst e1 e2
  exact ⟨Unit, f x1 x2 x3, _, hbody cdv A outer s H E hr x1 x2 x3, fun c j e => by rw [e]; rfl, fun e => by rw [e]; rfl, fun t e => .inr ⟨[], rfl, by rw [e]; rfl⟩⟩
theorem XV.fn3 {X : Cx} {W : WX} {ρ : Rs} {pos : Pos} {k : Nat} {x : Str} {fa : Addr} {fd : FuncData} {ps : List Str} {p : Pos} {e1 e2 e3 : Expr} {f : α1 → α2 → α3 → Res β} {m1 : Res α1} {m2 : Res α2} {m3 : Res α3} (G : FnV X.prog X.w X.K X.mg X.base k fa fd ps (Rn3 f)) (C : FnC X.K X.mg x fa fd ps) (hr : GRoom k X.A) (tk : Takes X W)
    (h1 : XV X W ρ e1 m1) (h2 : XV X W ρ e2 m2) (h3 : XV X W ρ e3 m3) (hg : Gl X x := by rfl) (hdb : (x == ("__debug__" : Str)) = false := by decide)
    (s1 : starEach [e1, e2, e3] X.env = (false, eval e1 X.env) :: starEach [e2, e3] X.env := by rfl) (s2 : starEach [e2, e3] X.env = (false, eval e2 X.env) :: starEach [e3] X.env := by rfl) (s3 : starEach [e3] X.env = (false, eval e3 X.env) :: starEach [] X.env := by rfl) (hpl : (backTo pos (starEach [e2, e3] X.env)).any (·.1) = false := by rfl) :
    XV X W ρ (.Call (.Name x p) [e1, e2, e3] [] pos) (do
    let x1 ← m1
    let x2 ← m2
    let x3 ← m3
    f x1 x2 x3) := by
  have G2 : FnV X.prog X.w X.K X.mg X.base k fa fd ps (fun ds r => ∃ i : α1 × α2 × α3, ds = [toD (i.1), toD (i.2.1), toD (i.2.2)] ∧ r = (f (i.1) (i.2.1) (i.2.2)).map toD) := ⟨fun vs H Q E ⟨F, ds, r, ⟨i, e1, e2⟩, q⟩ => G.len vs H Q E ⟨F, ds, r, ⟨i.1, i.2.1, i.2.2, e1, e2⟩, q⟩, fun A outer s H args us vs Q E hr e0 hb rv ⟨F, ds, r, ⟨i, e1, e2⟩, q⟩ => G.run A outer s H args us vs Q E hr e0 hb rv ⟨F, ds, r, ⟨i.1, i.2.1, i.2.2, e1, e2⟩, q⟩⟩
  refine (XV.callI (f := fun i => f (i.1) (i.2.1) (i.2.2)) (mm := (do
    let x1 ← m1
    let x2 ← m2
    let x3 ← m3
    Res.ok (x1, x2, x3))) G2 hr tk C.mg C.kp C.bn (XA.eq (XA.cons h1 (XA.cons h2 (XA.cons h3 XA.nil s3) s2) s1) ?_) hg hdb s1 hpl).eq ?_
  · cases m1 with
    | exc c i => rfl
    | stuck => rfl
    | ok y1 =>
      cases m2 with
      | exc c i => rfl
      | stuck => rfl
      | ok y2 =>
        cases m3 with
        | exc c i => rfl
        | stuck => rfl
        | ok y3 =>
          rfl
  · cases m1 with
    | exc c i => rfl
    | stuck => rfl
    | ok y1 =>
      cases m2 with
      | exc c i => rfl
      | stuck => rfl
      | ok y2 =>
        cases m3 with
        | exc c i => rfl
        | stuck => rfl
        | ok y3 =>
          rfl
end
section
variable {α1 : Type} [Enc α1] {α2 : Type} [Enc α2] {α3 : Type} [Enc α3] {α4 : Type} [Enc α4] {β : Type} [Enc β]
abbrev Rn4 (f : α1 → α2 → α3 → α4 → Res β) : List PyData → Res PyData → Prop := fun ds r => ∃ x1 x2 x3 x4, ds = [toD x1, toD x2, toD x3, toD x4] ∧ r = (f x1 x2 x3 x4).map toD
theorem fn4 {P : Program} {w : World} {K : PySem.W.Frag} {mg : Str → Option Value} {base : Heap} {x qual : Str} {params : Arguments} {body : List Stmt} {scope : Scope} {fa : Addr} {fd : FuncData} {N ps : List Str} {k : Nat} {f : α1 → α2 → α3 → α4 → Res β}
    (F : FunD K x qual params body scope [] [] fa fd) (S : FnScope N ps scope) (hps : ps.length = 4 := by rfl) (hl : ps.length ≤ N.length := by decide)
    (hbody : ∀ (cdv : Value) (A : Around) (outer : List Env) (s : Shared) (H : Hp) (E : XK), GRoom k (A.deeper (envOfC qual scope s.heap.objs.size fa cdv)) → ∀ x1 x2 x3 x4,
      XB (defX P w K mg base N qual scope fa cdv A outer s H E) (defW E) [(0, SV.sh (toD x1)), (1, SV.sh (toD x2)), (2, SV.sh (toD x3)), (3, SV.sh (toD x4))] body (f x1 x2 x3 x4) (fun b => .rt (toD b))) : FnV P w K mg base (k + 1) fa fd ps (Rn4 f) := by
  refine fn_def (τ := fun _ _ => Unit) F S (fun ds r ⟨x1, x2, x3, x4, e, _⟩ => by rw [e, hps]; rfl) hl fun cdv A outer s H E hr ds r ⟨x1, x2, x3, x4, e1, e2⟩ => ?_
  subst e1 e2
  exact ⟨β, f x1 x2 x3 x4, _, hbody cdv A outer s H E hr x1 x2 x3 x4, fun c j e => by rw [e]; rfl, fun e => by rw [e]; rfl, fun t e => .inl ⟨toD t, rfl, by rw [e]; rfl⟩⟩
theorem fn4p {P : Program} {w : World} {K : PySem.W.Frag} {mg : Str → Option Value} {base : Heap} {x qual : Str} {params : Arguments} {body : List Stmt} {scope : Scope} {fa : Addr} {fd : FuncData} {N ps : List Str} {k : Nat} {f : α1 → α2 → α3 → α4 → Res Unit}
    (F : FunD K x qual params body scope [] [] fa fd) (S : FnScope N ps scope) (hps : ps.length = 4 := by rfl) (hl : ps.length ≤ N.length := by decide)
    (hbody : ∀ (cdv : Value) (A : Around) (outer : List Env) (s : Shared) (H : Hp) (E : XK), GRoom k (A.deeper (envOfC qual scope s.heap.objs.size fa cdv)) → ∀ x1 x2 x3 x4,
      XB (defX P w K mg base N qual scope fa cdv A outer s H E) (defW E) [(0, SV.sh (toD x1)), (1, SV.sh (toD x2)), (2, SV.sh (toD x3)), (3, SV.sh (toD x4))] body (f x1 x2 x3 x4) (fun _ => .nx [])) : FnV P w K mg base (k + 1) fa fd ps (Rn4 f) := by
  refine fn_def (τ := fun _ _ => Unit) F S (fun ds r ⟨x1, x2, x3, x4, e, _⟩ => by rw [e, hps]; rfl) hl fun cdv A outer s H E hr ds r ⟨x1, x2, x3, x4, e1, e2⟩ => ?_
  subst e1 e2
  exact ⟨Unit, f x1 x2 x3 x4, _, hbody cdv A outer s H E hr x1 x2 x3 x4, fun c j e => by rw [e]; rfl, fun e => by rw [e]; rfl, fun t e => .inr ⟨[], rfl, by rw [e]; rfl⟩⟩
theorem XV.fn4 {X : Cx} {W : WX} {ρ : Rs} {pos : Pos} {k : Nat} {x : Str} {fa : Addr} {fd : FuncData} {ps : List Str} {p : Pos} {e1 e2 e3 e4 : Expr} {f : α1 → α2 → α3 → α4 → Res β} {m1 : Res α1} {m2 : Res α2} {m3 : Res α3} {m4 : Res α4} (G : FnV X.prog X.w X.K X.mg X.base k fa fd ps (Rn4 f)) (C : FnC X.K X.mg x fa fd ps) (hr : GRoom k X.A) (tk : Takes X W)
    (h1 : XV X W ρ e1 m1) (h2 : XV X W ρ e2 m2) (h3 : XV X W ρ e3 m3) (h4 : XV X W ρ e4 m4) (hg : Gl X x := by rfl) (hdb : (x == ("__debug__" : Str)) = false := by decide)
    (s1 : starEach [e1, e2, e3, e4] X.env = (false, eval e1 X.env) :: starEach [e2, e3, e4] X.env := by rfl) (s2 : starEach [e2, e3, e4] X.env = (false, eval e2 X.env) :: starEach [e3, e4] X.env := by rfl) (s3 : starEach [e3, e4] X.env = (false, eval e3 X.env) :: starEach [e4] X.env := by rfl) (s4 : starEach [e4] X.env = (false, eval e4 X.env) :: starEach [] X.env := by rfl) (hpl : (backTo pos (starEach [e2, e3, e4] X.env)).any (·.1) = false := by rfl) :
    XV X W ρ (.Call (.Name x p) [e1, e2, e3, e4] [] pos) (do
    let x1 ← m1
    let x2 ← m2
    let x3 ← m3
    let x4 ← m4
    f x1 x2 x3 x4) := by
  have G2 : FnV X.prog X.w X.K X.mg X.base k fa fd ps (fun ds r => ∃ i : α1 × α2 × α3 × α4, ds = [toD (i.1), toD (i.2.1), toD (i.2.2.1), toD (i.2.2.2)] ∧ r = (f (i.1) (i.2.1) (i.2.2.1) (i.2.2.2)).map toD) := ⟨fun vs H Q E ⟨F, ds, r, ⟨i, e1, e2⟩, q⟩ => G.len vs H Q E ⟨F, ds, r, ⟨i.1, i.2.1, i.2.2.1, i.2.2.2, e1, e2⟩, q⟩, fun A outer s H args us vs Q E hr e0 hb rv ⟨F, ds, r, ⟨i, e1, e2⟩, q⟩ => G.run A outer s H args us vs Q E hr e0 hb rv ⟨F, ds, r, ⟨i.1, i.2.1, i.2.2.1, i.2.2.2, e1, e2⟩, q⟩⟩
  refine (XV.callI (f := fun i => f (i.1) (i.2.1) (i.2.2.1) (i.2.2.2)) (mm := (do
    let x1 ← m1
    let x2 ← m2
    let x3 ← m3
    let x4 ← m4
    Res.ok (x1, x2, x3, x4))) G2 hr tk C.mg C.kp C.bn (XA.eq (XA.cons h1 (XA.cons h2 (XA.cons h3 (XA.cons h4 XA.nil s4) s3) s2) s1) ?_) hg hdb s1 hpl).eq ?_
  · cases m1 with
    | exc c i => rfl
    | stuck => rfl
    | ok y1 =>
      cases m2 with
      | exc c i => rfl
      | stuck => rfl
      | ok y2 =>
        cases m3 with
        | exc c i => rfl
        | stuck => rfl
        | ok y3 =>
          cases m4 with
          | exc c i => rfl
          | stuck => rfl
          | ok y4 =>
            rfl
  · cases m1 with
    | exc c i => rfl
    | stuck => rfl
    | ok y1 =>
      cases m2 with
      | exc c i => rfl
      | stuck => rfl
      | ok y2 =>
        cases m3 with
        | exc c i => rfl
        | stuck => rfl
        | ok y3 =>
          cases m4 with
          | exc c i => rfl
          | stuck => rfl
          | ok y4 =>
            rfl
end
section
variable {α1 : Type} [Enc α1] {α2 : Type} [Enc α2] {α3 : Type} [Enc α3] {α4 : Type} [Enc α4] {α5 : Type} [Enc α5] {β : Type} [Enc β]
abbrev Rn5 (f : α1 → α2 → α3 → α4 → α5 → Res β) : List PyData → Res PyData → Prop := fun ds r => ∃ x1 x2 x3 x4 x5, ds = [toD x1, toD x2, toD x3, toD x4, toD x5] ∧ r = (f x1 x2 x3 x4 x5).map toD
theorem fn5 {P : Program} {w : World} {K : PySem.W.Frag} {mg : Str → Option Value} {base : Heap} {x qual : Str} {params : Arguments} {body : List Stmt} {scope : Scope} {fa : Addr} {fd : FuncData} {N ps : List Str} {k : Nat} {f : α1 → α2 → α3 → α4 → α5 → Res β}
    (F : FunD K x qual params body scope [] [] fa fd) (S : FnScope N ps scope) (hps : ps.length = 5 := by rfl) (hl : ps.length ≤ N.length := by decide)
    (hbody : ∀ (cdv : Value) (A : Around) (outer : List Env) (s : Shared) (H : Hp) (E : XK), GRoom k (A.deeper (envOfC qual scope s.heap.objs.size fa cdv)) → ∀ x1 x2 x3 x4 x5,
      XB (defX P w K mg base N qual scope fa cdv A outer s H E) (defW E) [(0, SV.sh (toD x1)), (1, SV.sh (toD x2)), (2, SV.sh (toD x3)), (3, SV.sh (toD x4)), (4, SV.sh (toD x5))] body (f x1 x2 x3 x4 x5) (fun b => .rt (toD b))) : FnV P w K mg base (k + 1) fa fd ps (Rn5 f) := by
  refine fn_def (τ := fun _ _ => Unit) F S (fun ds r ⟨x1, x2, x3, x4, x5, e, _⟩ => by rw [e, hps]; rfl) hl fun cdv A outer s H E hr ds r ⟨x1, x2, x3, x4, x5, e1, e2⟩ => ?_
  subst e1 e2
  exact ⟨β, f x1 x2 x3 x4 x5, _, hbody cdv A outer s H E hr x1 x2 x3 x4 x5, fun c j e => by rw [e]; rfl, fun e => by rw [e]; rfl, fun t e => .inl ⟨toD t, rfl, by rw [e]; rfl⟩⟩
theorem fn5p {P : Program} {w : World} {K : PySem.W.Frag} {mg : Str → Option Value} {base : Heap} {x qual : Str} {params : Arguments} {body : List Stmt} {scope : Scope} {fa : Addr} {fd : FuncData} {N ps : List Str} {k : Nat} {f : α1 → α2 → α3 → α4 → α5 → Res Unit}
    (F : FunD K x qual params body scope [] [] fa fd) (S : FnScope N ps scope) (hps : ps.length = 5 := by rfl) (hl : ps.length ≤ N.length := by decide)
    (hbody : ∀ (cdv : Value) (A : Around) (outer : List Env) (s : Shared) (H : Hp) (E : XK), GRoom k (A.deeper (envOfC qual scope s.heap.objs.size fa cdv)) → ∀ x1 x2 x3 x4 x5,
      XB (defX P w K mg base N qual scope fa cdv A outer s H E) (defW E) [(0, SV.sh (toD x1)), (1, SV.sh (toD x2)), (2, SV.sh (toD x3)), (3, SV.sh (toD x4)), (4, SV.sh (toD x5))] body (f x1 x2 x3 x4 x5) (fun _ => .nx [])) : FnV P w K mg base (k + 1) fa fd ps (Rn5 f) := by
  refine fn_def (τ := fun _ _ => Unit) F S (fun ds r ⟨x1, x2, x3, x4, x5, e, _⟩ => by rw [e, hps]; rfl) hl fun cdv A outer s H E hr ds r ⟨x1, x2, x3, x4, x5, e1, e2⟩ => ?_
  subst e1 e2
  exact ⟨Unit, f x1 x2 x3 x4 x5, _, hbody cdv A outer s H E hr x1 x2 x3 x4 x5, fun c j e => by rw [e]; rfl, fun e => by rw [e]; rfl, fun t e => .inr ⟨[], rfl, by rw [e]; rfl⟩⟩
theorem XV.fn5 {X : Cx} {W : WX} {ρ : Rs} {pos : Pos} {k : Nat} {x : Str} {fa : Addr} {fd : FuncData} {ps : List Str} {p : Pos} {e1 e2 e3 e4 e5 : Expr} {f : α1 → α2 → α3 → α4 → α5 → Res β} {m1 : Res α1} {m2 : Res α2} {m3 : Res α3} {m4 : Res α4} {m5 : Res α5} (G : FnV X.prog X.w X.K X.mg X.base k fa fd ps (Rn5 f)) (C : FnC X.K X.mg x fa fd ps) (hr : GRoom k X.A) (tk : Takes X W)
    (h1 : XV X W ρ e1 m1) (h2 : XV X W ρ e2 m2) (h3 : XV X W ρ e3 m3) (h4 : XV X W ρ e4 m4) (h5 : XV X W ρ e5 m5) (hg : Gl X x := by rfl) (hdb : (x == ("__debug__" : Str)) = false := by decide)
    (s1 : starEach [e1, e2, e3, e4, e5] X.env = (false, eval e1 X.env) :: starEach [e2, e3, e4, e5] X.env := by rfl) (s2 : starEach [e2, e3, e4, e5] X.env = (false, eval e2 X.env) :: starEach [e3, e4, e5] X.env := by rfl) (s3 : starEach [e3, e4, e5] X.env = (false, eval e3 X.env) :: starEach [e4, e5] X.env := by rfl) (s4 : starEach [e4, e5] X.env = (false, eval e4 X.env) :: starEach [e5] X.env := by rfl) (s5 : starEach [e5] X.env = (false, eval e5 X.env) :: starEach [] X.env := by rfl) (hpl : (backTo pos (starEach [e2, e3, e4, e5] X.env)).any (·.1) = false := by rfl) :
    XV X W ρ (.Call (.Name x p) [e1, e2, e3, e4, e5] [] pos) (do
    let x1 ← m1
    let x2 ← m2
    let x3 ← m3
    let x4 ← m4
    let x5 ← m5
    f x1 x2 x3 x4 x5) := by
  have G2 : FnV X.prog X.w X.K X.mg X.base k fa fd ps (fun ds r => ∃ i : α1 × α2 × α3 × α4 × α5, ds = [toD (i.1), toD (i.2.1), toD (i.2.2.1), toD (i.2.2.2.1), toD (i.2.2.2.2)] ∧ r = (f (i.1) (i.2.1) (i.2.2.1) (i.2.2.2.1) (i.2.2.2.2)).map toD) := ⟨fun vs H Q E ⟨F, ds, r, ⟨i, e1, e2⟩, q⟩ => G.len vs H Q E ⟨F, ds, r, ⟨i.1, i.2.1, i.2.2.1, i.2.2.2.1, i.2.2.2.2, e1, e2⟩, q⟩, fun A outer s H args us vs Q E hr e0 hb rv ⟨F, ds, r, ⟨i, e1, e2⟩, q⟩ => G.run A outer s H args us vs Q E hr e0 hb rv ⟨F, ds, r, ⟨i.1, i.2.1, i.2.2.1, i.2.2.2.1, i.2.2.2.2, e1, e2⟩, q⟩⟩
  refine (XV.callI (f := fun i => f (i.1) (i.2.1) (i.2.2.1) (i.2.2.2.1) (i.2.2.2.2)) (mm := (do
    let x1 ← m1
    let x2 ← m2
    let x3 ← m3
    let x4 ← m4
    let x5 ← m5
    Res.ok (x1, x2, x3, x4, x5))) G2 hr tk C.mg C.kp C.bn (XA.eq (XA.cons h1 (XA.cons h2 (XA.cons h3 (XA.cons h4 (XA.cons h5 XA.nil s5) s4) s3) s2) s1) ?_) hg hdb s1 hpl).eq ?_
  · cases m1 with
    | exc c i => rfl
    | stuck => rfl
    | ok y1 =>
      cases m2 with
      | exc c i => rfl
      | stuck => rfl
      | ok y2 =>
        cases m3 with
        | exc c i => rfl
        | stuck => rfl
        | ok y3 =>
          cases m4 with
          | exc c i => rfl
          | stuck => rfl
          | ok y4 =>
            cases m5 with
            | exc c i => rfl
            | stuck => rfl
            | ok y5 =>
              rfl
  · cases m1 with
    | exc c i => rfl
    | stuck => rfl
    | ok y1 =>
      cases m2 with
      | exc c i => rfl
      | stuck => rfl
      | ok y2 =>
        cases m3 with
        | exc c i => rfl
        | stuck => rfl
        | ok y3 =>
          cases m4 with
          | exc c i => rfl
          | stuck => rfl
          | ok y4 =>
            cases m5 with
            | exc c i => rfl
            | stuck => rfl
            | ok y5 =>
              rfl
end
section
variable {α1 : Type} [Enc α1] {α2 : Type} [Enc α2] {α3 : Type} [Enc α3] {α4 : Type} [Enc α4] {α5 : Type} [Enc α5] {α6 : Type} [Enc α6] {β : Type} [Enc β]
abbrev Rn6 (f : α1 → α2 → α3 → α4 → α5 → α6 → Res β) : List PyData → Res PyData → Prop := fun ds r => ∃ x1 x2 x3 x4 x5 x6, ds = [toD x1, toD x2, toD x3, toD x4, toD x5, toD x6] ∧ r = (f x1 x2 x3 x4 x5 x6).map toD
theorem fn6 {P : Program} {w : World} {K : PySem.W.Frag} {mg : Str → Option Value} {base : Heap} {x qual : Str} {params : Arguments} {body : List Stmt} {scope : Scope} {fa : Addr} {fd : FuncData} {N ps : List Str} {k : Nat} {f : α1 → α2 → α3 → α4 → α5 → α6 → Res β}
    (F : FunD K x qual params body scope [] [] fa fd) (S : FnScope N ps scope) (hps : ps.length = 6 := by rfl) (hl : ps.length ≤ N.length := by decide)
    (hbody : ∀ (cdv : Value) (A : Around) (outer : List Env) (s : Shared) (H : Hp) (E : XK), GRoom k (A.deeper (envOfC qual scope s.heap.objs.size fa cdv)) → ∀ x1 x2 x3 x4 x5 x6,
      XB (defX P w K mg base N qual scope fa cdv A outer s H E) (defW E) [(0, SV.sh (toD x1)), (1, SV.sh (toD x2)), (2, SV.sh (toD x3)), (3, SV.sh (toD x4)), (4, SV.sh (toD x5)), (5, SV.sh (toD x6))] body (f x1 x2 x3 x4 x5 x6) (fun b => .rt (toD b))) : FnV P w K mg base (k + 1) fa fd ps (Rn6 f) := by
  refine fn_def (τ := fun _ _ => Unit) F S (fun ds r ⟨x1, x2, x3, x4, x5, x6, e, _⟩ => by rw [e, hps]; rfl) hl fun cdv A outer s H E hr ds r ⟨x1, x2, x3, x4, x5, x6, e1, e2⟩ => ?_
  subst e1 e2
  exact ⟨β, f x1 x2 x3 x4 x5 x6, _, hbody cdv A outer s H E hr x1 x2 x3 x4 x5 x6, fun c j e => by rw [e]; rfl, fun e => by rw [e]; rfl, fun t e => .inl ⟨toD t, rfl, by rw [e]; rfl⟩⟩
theorem fn6p {P : Program} {w : World} {K : PySem.W.Frag} {mg : Str → Option Value} {base : Heap} {x qual : Str} {params : Arguments} {body : List Stmt} {scope : Scope} {fa : Addr} {fd : FuncData} {N ps : List Str} {k : Nat} {f : α1 → α2 → α3 → α4 → α5 → α6 → Res Unit}
    (F : FunD K x qual params body scope [] [] fa fd) (S : FnScope N ps scope) (hps : ps.length = 6 := by rfl) (hl : ps.length ≤ N.length := by decide)
    (hbody : ∀ (cdv : Value) (A : Around) (outer : List Env) (s : Shared) (H : Hp) (E : XK), GRoom k (A.deeper (envOfC qual scope s.heap.objs.size fa cdv)) → ∀ x1 x2 x3 x4 x5 x6,
      XB (defX P w K mg base N qual scope fa cdv A outer s H E) (defW E) [(0, SV.sh (toD x1)), (1, SV.sh (toD x2)), (2, SV.sh (toD x3)), (3, SV.sh (toD x4)), (4, SV.sh (toD x5)), (5, SV.sh (toD x6))] body (f x1 x2 x3 x4 x5 x6) (fun _ => .nx [])) : FnV P w K mg base (k + 1) fa fd ps (Rn6 f) := by
  refine fn_def (τ := fun _ _ => Unit) F S (fun ds r ⟨x1, x2, x3, x4, x5, x6, e, _⟩ => by rw [e, hps]; rfl) hl fun cdv A outer s H E hr ds r ⟨x1, x2, x3, x4, x5, x6, e1, e2⟩ => ?_
  subst e1 e2
  exact ⟨Unit, f x1 x2 x3 x4 x5 x6, _, hbody cdv A outer s H E hr x1 x2 x3 x4 x5 x6, fun c j e => by rw [e]; rfl, fun e => by rw [e]; rfl, fun t e => .inr ⟨[], rfl, by rw [e]; rfl⟩⟩
theorem XV.fn6 {X : Cx} {W : WX} {ρ : Rs} {pos : Pos} {k : Nat} {x : Str} {fa : Addr} {fd : FuncData} {ps : List Str} {p : Pos} {e1 e2 e3 e4 e5 e6 : Expr} {f : α1 → α2 → α3 → α4 → α5 → α6 → Res β} {m1 : Res α1} {m2 : Res α2} {m3 : Res α3} {m4 : Res α4} {m5 : Res α5} {m6 : Res α6} (G : FnV X.prog X.w X.K X.mg X.base k fa fd ps (Rn6 f)) (C : FnC X.K X.mg x fa fd ps) (hr : GRoom k X.A) (tk : Takes X W)
    (h1 : XV X W ρ e1 m1) (h2 : XV X W ρ e2 m2) (h3 : XV X W ρ e3 m3) (h4 : XV X W ρ e4 m4) (h5 : XV X W ρ e5 m5) (h6 : XV X W ρ e6 m6) (hg : Gl X x := by rfl) (hdb : (x == ("__debug__" : Str)) = false := by decide)
    (s1 : starEach [e1, e2, e3, e4, e5, e6] X.env = (false, eval e1 X.env) :: starEach [e2, e3, e4, e5, e6] X.env := by rfl) (s2 : starEach [e2, e3, e4, e5, e6] X.env = (false, eval e2 X.env) :: starEach [e3, e4, e5, e6] X.env := by rfl) (s3 : starEach [e3, e4, e5, e6] X.env = (false, eval e3 X.env) :: starEach [e4, e5, e6] X.env := by rfl) (s4 : starEach [e4, e5, e6] X.env = (false, eval e4 X.env) :: starEach [e5, e6] X.env := by rfl) (s5 : starEach [e5, e6] X.env = (false, eval e5 X.env) :: starEach [e6] X.env := by rfl) (s6 : starEach [e6] X.env = (false, eval e6 X.env) :: starEach [] X.env := by rfl) (hpl : (backTo pos (starEach [e2, e3, e4, e5, e6] X.env)).any (·.1) = false := by rfl) :
    XV X W ρ (.Call (.Name x p) [e1, e2, e3, e4, e5, e6] [] pos) (do
    let x1 ← m1
    let x2 ← m2
    let x3 ← m3
    let x4 ← m4
    let x5 ← m5
    let x6 ← m6
    f x1 x2 x3 x4 x5 x6) := by
  have G2 : FnV X.prog X.w X.K X.mg X.base k fa fd ps (fun ds r => ∃ i : α1 × α2 × α3 × α4 × α5 × α6, ds = [toD (i.1), toD (i.2.1), toD (i.2.2.1), toD (i.2.2.2.1), toD (i.2.2.2.2.1), toD (i.2.2.2.2.2)] ∧ r = (f (i.1) (i.2.1) (i.2.2.1) (i.2.2.2.1) (i.2.2.2.2.1) (i.2.2.2.2.2)).map toD) := ⟨fun vs H Q E ⟨F, ds, r, ⟨i, e1, e2⟩, q⟩ => G.len vs H Q E ⟨F, ds, r, ⟨i.1, i.2.1, i.2.2.1, i.2.2.2.1, i.2.2.2.2.1, i.2.2.2.2.2, e1, e2⟩, q⟩, fun A outer s H args us vs Q E hr e0 hb rv ⟨F, ds, r, ⟨i, e1, e2⟩, q⟩ => G.run A outer s H args us vs Q E hr e0 hb rv ⟨F, ds, r, ⟨i.1, i.2.1, i.2.2.1, i.2.2.2.1, i.2.2.2.2.1, i.2.2.2.2.2, e1, e2⟩, q⟩⟩
  refine (XV.callI (f := fun i => f (i.1) (i.2.1) (i.2.2.1) (i.2.2.2.1) (i.2.2.2.2.1) (i.2.2.2.2.2)) (mm := (do
    let x1 ← m1
    let x2 ← m2
    let x3 ← m3
    let x4 ← m4
    let x5 ← m5
    let x6 ← m6
    Res.ok (x1, x2, x3, x4, x5, x6))) G2 hr tk C.mg C.kp C.bn (XA.eq (XA.cons h1 (XA.cons h2 (XA.cons h3 (XA.cons h4 (XA.cons h5 (XA.cons h6 XA.nil s6) s5) s4) s3) s2) s1) ?_) hg hdb s1 hpl).eq ?_
  · cases m1 with
    | exc c i => rfl
    | stuck => rfl
    | ok y1 =>
      cases m2 with
      | exc c i => rfl
      | stuck => rfl
      | ok y2 =>
        cases m3 with
        | exc c i => rfl
        | stuck => rfl
        | ok y3 =>
          cases m4 with
          | exc c i => rfl
          | stuck => rfl
          | ok y4 =>
            cases m5 with
            | exc c i => rfl
            | stuck => rfl
            | ok y5 =>
              cases m6 with
              | exc c i => rfl
              | stuck => rfl
              | ok y6 =>
                rfl
  · cases m1 with
    | exc c i => rfl
    | stuck => rfl
    | ok y1 =>
      cases m2 with
      | exc c i => rfl
      | stuck => rfl
      | ok y2 =>
        cases m3 with
        | exc c i => rfl
        | stuck => rfl
        | ok y3 =>
          cases m4 with
          | exc c i => rfl
          | stuck => rfl
          | ok y4 =>
            cases m5 with
            | exc c i => rfl
            | stuck => rfl
            | ok y5 =>
              cases m6 with
              | exc c i => rfl
              | stuck => rfl
              | ok y6 =>
                rfl
end
section
variable {α1 : Type} [Enc α1] {α2 : Type} [Enc α2] {α3 : Type} [Enc α3] {α4 : Type} [Enc α4] {α5 : Type} [Enc α5] {α6 : Type} [Enc α6] {α7 : Type} [Enc α7] {β : Type} [Enc β]
abbrev Rn7 (f : α1 → α2 → α3 → α4 → α5 → α6 → α7 → Res β) : List PyData → Res PyData → Prop := fun ds r => ∃ x1 x2 x3 x4 x5 x6 x7, ds = [toD x1, toD x2, toD x3, toD x4, toD x5, toD x6, toD x7] ∧ r = (f x1 x2 x3 x4 x5 x6 x7).map toD
theorem fn7 {P : Program} {w : World} {K : PySem.W.Frag} {mg : Str → Option Value} {base : Heap} {x qual : Str} {params : Arguments} {body : List Stmt} {scope : Scope} {fa : Addr} {fd : FuncData} {N ps : List Str} {k : Nat} {f : α1 → α2 → α3 → α4 → α5 → α6 → α7 → Res β}
    (F : FunD K x qual params body scope [] [] fa fd) (S : FnScope N ps scope) (hps : ps.length = 7 := by rfl) (hl : ps.length ≤ N.length := by decide)
    (hbody : ∀ (cdv : Value) (A : Around) (outer : List Env) (s : Shared) (H : Hp) (E : XK), GRoom k (A.deeper (envOfC qual scope s.heap.objs.size fa cdv)) → ∀ x1 x2 x3 x4 x5 x6 x7,
      XB (defX P w K mg base N qual scope fa cdv A outer s H E) (defW E) [(0, SV.sh (toD x1)), (1, SV.sh (toD x2)), (2, SV.sh (toD x3)), (3, SV.sh (toD x4)), (4, SV.sh (toD x5)), (5, SV.sh (toD x6)), (6, SV.sh (toD x7))] body (f x1 x2 x3 x4 x5 x6 x7) (fun b => .rt (toD b))) : FnV P w K mg base (k + 1) fa fd ps (Rn7 f) := by
  refine fn_def (τ := fun _ _ => Unit) F S (fun ds r ⟨x1, x2, x3, x4, x5, x6, x7, e, _⟩ => by rw [e, hps]; rfl) hl fun cdv A outer s H E hr ds r ⟨x1, x2, x3, x4, x5, x6, x7, e1, e2⟩ => ?_
  subst e1 e2
  exact ⟨β, f x1 x2 x3 x4 x5 x6 x7, _, hbody cdv A outer s H E hr x1 x2 x3 x4 x5 x6 x7, fun c j e => by rw [e]; rfl, fun e => by rw [e]; rfl, fun t e => .inl ⟨toD t, rfl, by rw [e]; rfl⟩⟩
theorem fn7p {P : Program} {w : World} {K : PySem.W.Frag} {mg : Str → Option Value} {base : Heap} {x qual : Str} {params : Arguments} {body : List Stmt} {scope : Scope} {fa : Addr} {fd : FuncData} {N ps : List Str} {k : Nat} {f : α1 → α2 → α3 → α4 → α5 → α6 → α7 → Res Unit}
    (F : FunD K x qual params body scope [] [] fa fd) (S : FnScope N ps scope) (hps : ps.length = 7 := by rfl) (hl : ps.length ≤ N.length := by decide)
    (hbody : ∀ (cdv : Value) (A : Around) (outer : List Env) (s : Shared) (H : Hp) (E : XK), GRoom k (A.deeper (envOfC qual scope s.heap.objs.size fa cdv)) → ∀ x1 x2 x3 x4 x5 x6 x7,
      XB (defX P w K mg base N qual scope fa cdv A outer s H E) (defW E) [(0, SV.sh (toD x1)), (1, SV.sh (toD x2)), (2, SV.sh (toD x3)), (3, SV.sh (toD x4)), (4, SV.sh (toD x5)), (5, SV.sh (toD x6)), (6, SV.sh (toD x7))] body (f x1 x2 x3 x4 x5 x6 x7) (fun _ => .nx [])) : FnV P w K mg base (k + 1) fa fd ps (Rn7 f) := by
  refine fn_def (τ := fun _ _ => Unit) F S (fun ds r ⟨x1, x2, x3, x4, x5, x6, x7, e, _⟩ => by rw [e, hps]; rfl) hl fun cdv A outer s H E hr ds r ⟨x1, x2, x3, x4, x5, x6, x7, e1, e2⟩ => ?_
  subst e1 e2
  exact ⟨Unit, f x1 x2 x3 x4 x5 x6 x7, _, hbody cdv A outer s H E hr x1 x2 x3 x4 x5 x6 x7, fun c j e => by rw [e]; rfl, fun e => by rw [e]; rfl, fun t e => .inr ⟨[], rfl, by rw [e]; rfl⟩⟩
theorem XV.fn7 {X : Cx} {W : WX} {ρ : Rs} {pos : Pos} {k : Nat} {x : Str} {fa : Addr} {fd : FuncData} {ps : List Str} {p : Pos} {e1 e2 e3 e4 e5 e6 e7 : Expr} {f : α1 → α2 → α3 → α4 → α5 → α6 → α7 → Res β} {m1 : Res α1} {m2 : Res α2} {m3 : Res α3} {m4 : Res α4} {m5 : Res α5} {m6 : Res α6} {m7 : Res α7} (G : FnV X.prog X.w X.K X.mg X.base k fa fd ps (Rn7 f)) (C : FnC X.K X.mg x fa fd ps) (hr : GRoom k X.A) (tk : Takes X W)
    (h1 : XV X W ρ e1 m1) (h2 : XV X W ρ e2 m2) (h3 : XV X W ρ e3 m3) (h4 : XV X W ρ e4 m4) (h5 : XV X W ρ e5 m5) (h6 : XV X W ρ e6 m6) (h7 : XV X W ρ e7 m7) (hg : Gl X x := by rfl) (hdb : (x == ("__debug__" : Str)) = false := by decide)
    (s1 : starEach [e1, e2, e3, e4, e5, e6, e7] X.env = (false, eval e1 X.env) :: starEach [e2, e3, e4, e5, e6, e7] X.env := by rfl) (s2 : starEach [e2, e3, e4, e5, e6, e7] X.env = (false, eval e2 X.env) :: starEach [e3, e4, e5, e6, e7] X.env := by rfl) (s3 : starEach [e3, e4, e5, e6, e7] X.env = (false, eval e3 X.env) :: starEach [e4, e5, e6, e7] X.env := by rfl) (s4 : starEach [e4, e5, e6, e7] X.env = (false, eval e4 X.env) :: starEach [e5, e6, e7] X.env := by rfl) (s5 : starEach [e5, e6, e7] X.env = (false, eval e5 X.env) :: starEach [e6, e7] X.env := by rfl) (s6 : starEach [e6, e7] X.env = (false, eval e6 X.env) :: starEach [e7] X.env := by rfl) (s7 : starEach [e7] X.env = (false, eval e7 X.env) :: starEach [] X.env := by rfl) (hpl : (backTo pos (starEach [e2, e3, e4, e5, e6, e7] X.env)).any (·.1) = false := by rfl) :
    XV X W ρ (.Call (.Name x p) [e1, e2, e3, e4, e5, e6, e7] [] pos) (do
    let x1 ← m1
    let x2 ← m2
    let x3 ← m3
    let x4 ← m4
    let x5 ← m5
    let x6 ← m6
    let x7 ← m7
    f x1 x2 x3 x4 x5 x6 x7) := by
  have G2 : FnV X.prog X.w X.K X.mg X.base k fa fd ps (fun ds r => ∃ i : α1 × α2 × α3 × α4 × α5 × α6 × α7, ds = [toD (i.1), toD (i.2.1), toD (i.2.2.1), toD (i.2.2.2.1), toD (i.2.2.2.2.1), toD (i.2.2.2.2.2.1), toD (i.2.2.2.2.2.2)] ∧ r = (f (i.1) (i.2.1) (i.2.2.1) (i.2.2.2.1) (i.2.2.2.2.1) (i.2.2.2.2.2.1) (i.2.2.2.2.2.2)).map toD) := ⟨fun vs H Q E ⟨F, ds, r, ⟨i, e1, e2⟩, q⟩ => G.len vs H Q E ⟨F, ds, r, ⟨i.1, i.2.1, i.2.2.1, i.2.2.2.1, i.2.2.2.2.1, i.2.2.2.2.2.1, i.2.2.2.2.2.2, e1, e2⟩, q⟩, fun A outer s H args us vs Q E hr e0 hb rv ⟨F, ds, r, ⟨i, e1, e2⟩, q⟩ => G.run A outer s H args us vs Q E hr e0 hb rv ⟨F, ds, r, ⟨i.1, i.2.1, i.2.2.1, i.2.2.2.1, i.2.2.2.2.1, i.2.2.2.2.2.1, i.2.2.2.2.2.2, e1, e2⟩, q⟩⟩
  refine (XV.callI (f := fun i => f (i.1) (i.2.1) (i.2.2.1) (i.2.2.2.1) (i.2.2.2.2.1) (i.2.2.2.2.2.1) (i.2.2.2.2.2.2)) (mm := (do
    let x1 ← m1
    let x2 ← m2
    let x3 ← m3
    let x4 ← m4
    let x5 ← m5
    let x6 ← m6
    let x7 ← m7
    Res.ok (x1, x2, x3, x4, x5, x6, x7))) G2 hr tk C.mg C.kp C.bn (XA.eq (XA.cons h1 (XA.cons h2 (XA.cons h3 (XA.cons h4 (XA.cons h5 (XA.cons h6 (XA.cons h7 XA.nil s7) s6) s5) s4) s3) s2) s1) ?_) hg hdb s1 hpl).eq ?_
  · cases m1 with
    | exc c i => rfl
    | stuck => rfl
    | ok y1 =>
      cases m2 with
      | exc c i => rfl
      | stuck => rfl
      | ok y2 =>
        cases m3 with
        | exc c i => rfl
        | stuck => rfl
        | ok y3 =>
          cases m4 with
          | exc c i => rfl
          | stuck => rfl
          | ok y4 =>
            cases m5 with
            | exc c i => rfl
            | stuck => rfl
            | ok y5 =>
              cases m6 with
              | exc c i => rfl
              | stuck => rfl
              | ok y6 =>
                cases m7 with
                | exc c i => rfl
                | stuck => rfl
                | ok y7 =>
                  rfl
  · cases m1 with
    | exc c i => rfl
    | stuck => rfl
    | ok y1 =>
      cases m2 with
      | exc c i => rfl
      | stuck => rfl
      | ok y2 =>
        cases m3 with
        | exc c i => rfl
        | stuck => rfl
        | ok y3 =>
          cases m4 with
          | exc c i => rfl
          | stuck => rfl
          | ok y4 =>
            cases m5 with
            | exc c i => rfl
            | stuck => rfl
            | ok y5 =>
              cases m6 with
              | exc c i => rfl
              | stuck => rfl
              | ok y6 =>
                cases m7 with
                | exc c i => rfl
                | stuck => rfl
                | ok y7 =>
                  rfl
end
section
variable {α1 : Type} [Enc α1] {α2 : Type} [Enc α2] {α3 : Type} [Enc α3] {α4 : Type} [Enc α4] {α5 : Type} [Enc α5] {α6 : Type} [Enc α6] {α7 : Type} [Enc α7] {α8 : Type} [Enc α8] {β : Type} [Enc β]
abbrev Rn8 (f : α1 → α2 → α3 → α4 → α5 → α6 → α7 → α8 → Res β) : List PyData → Res PyData → Prop := fun ds r => ∃ x1 x2 x3 x4 x5 x6 x7 x8, ds = [toD x1, toD x2, toD x3, toD x4, toD x5, toD x6, toD x7, toD x8] ∧ r = (f x1 x2 x3 x4 x5 x6 x7 x8).map toD
theorem fn8 {P : Program} {w : World} {K : PySem.W.Frag} {mg : Str → Option Value} {base : Heap} {x qual : Str} {params : Arguments} {body : List Stmt} {scope : Scope} {fa : Addr} {fd : FuncData} {N ps : List Str} {k : Nat} {f : α1 → α2 → α3 → α4 → α5 → α6 → α7 → α8 → Res β}
    (F : FunD K x qual params body scope [] [] fa fd) (S : FnScope N ps scope) (hps : ps.length = 8 := by rfl) (hl : ps.length ≤ N.length := by decide)
    (hbody : ∀ (cdv : Value) (A : Around) (outer : List Env) (s : Shared) (H : Hp) (E : XK), GRoom k (A.deeper (envOfC qual scope s.heap.objs.size fa cdv)) → ∀ x1 x2 x3 x4 x5 x6 x7 x8,
      XB (defX P w K mg base N qual scope fa cdv A outer s H E) (defW E) [(0, SV.sh (toD x1)), (1, SV.sh (toD x2)), (2, SV.sh (toD x3)), (3, SV.sh (toD x4)), (4, SV.sh (toD x5)), (5, SV.sh (toD x6)), (6, SV.sh (toD x7)), (7, SV.sh (toD x8))] body (f x1 x2 x3 x4 x5 x6 x7 x8) (fun b => .rt (toD b))) : FnV P w K mg base (k + 1) fa fd ps (Rn8 f) := by
  refine fn_def (τ := fun _ _ => Unit) F S (fun ds r ⟨x1, x2, x3, x4, x5, x6, x7, x8, e, _⟩ => by rw [e, hps]; rfl) hl fun cdv A outer s H E hr ds r ⟨x1, x2, x3, x4, x5, x6, x7, x8, e1, e2⟩ => ?_
  subst e1 e2
  exact ⟨β, f x1 x2 x3 x4 x5 x6 x7 x8, _, hbody cdv A outer s H E hr x1 x2 x3 x4 x5 x6 x7 x8, fun c j e => by rw [e]; rfl, fun e => by rw [e]; rfl, fun t e => .inl ⟨toD t, rfl, by rw [e]; rfl⟩⟩
theorem fn8p {P : Program} {w : World} {K : PySem.W.Frag} {mg : Str → Option Value} {base : Heap} {x qual : Str} {params : Arguments} {body : List Stmt} {scope : Scope} {fa : Addr} {fd : FuncData} {N ps : List Str} {k : Nat} {f : α1 → α2 → α3 → α4 → α5 → α6 → α7 → α8 → Res Unit}
    (F : FunD K x qual params body scope [] [] fa fd) (S : FnScope N ps scope) (hps : ps.length = 8 := by rfl) (hl : ps.length ≤ N.length := by decide)
    (hbody : ∀ (cdv : Value) (A : Around) (outer : List Env) (s : Shared) (H : Hp) (E : XK), GRoom k (A.deeper (envOfC qual scope s.heap.objs.size fa cdv)) → ∀ x1 x2 x3 x4 x5 x6 x7 x8,
      XB (defX P w K mg base N qual scope fa cdv A outer s H E) (defW E) [(0, SV.sh (toD x1)), (1, SV.sh (toD x2)), (2, SV.sh (toD x3)), (3, SV.sh (toD x4)), (4, SV.sh (toD x5)), (5, SV.sh (toD x6)), (6, SV.sh (toD x7)), (7, SV.sh (toD x8))] body (f x1 x2 x3 x4 x5 x6 x7 x8) (fun _ => .nx [])) : FnV P w K mg base (k + 1) fa fd ps (Rn8 f) := by
  refine fn_def (τ := fun _ _ => Unit) F S (fun ds r ⟨x1, x2, x3, x4, x5, x6, x7, x8, e, _⟩ => by rw [e, hps]; rfl) hl fun cdv A outer s H E hr ds r ⟨x1, x2, x3, x4, x5, x6, x7, x8, e1, e2⟩ => ?_
  subst e1 e2
  exact ⟨Unit, f x1 x2 x3 x4 x5 x6 x7 x8, _, hbody cdv A outer s H E hr x1 x2 x3 x4 x5 x6 x7 x8, fun c j e => by rw [e]; rfl, fun e => by rw [e]; rfl, fun t e => .inr ⟨[], rfl, by rw [e]; rfl⟩⟩
theorem XV.fn8 {X : Cx} {W : WX} {ρ : Rs} {pos : Pos} {k : Nat} {x : Str} {fa : Addr} {fd : FuncData} {ps : List Str} {p : Pos} {e1 e2 e3 e4 e5 e6 e7 e8 : Expr} {f : α1 → α2 → α3 → α4 → α5 → α6 → α7 → α8 → Res β} {m1 : Res α1} {m2 : Res α2} {m3 : Res α3} {m4 : Res α4} {m5 : Res α5} {m6 : Res α6} {m7 : Res α7} {m8 : Res α8} (G : FnV X.prog X.w X.K X.mg X.base k fa fd ps (Rn8 f)) (C : FnC X.K X.mg x fa fd ps) (hr : GRoom k X.A) (tk : Takes X W)
    (h1 : XV X W ρ e1 m1) (h2 : XV X W ρ e2 m2) (h3 : XV X W ρ e3 m3) (h4 : XV X W ρ e4 m4) (h5 : XV X W ρ e5 m5) (h6 : XV X W ρ e6 m6) (h7 : XV X W ρ e7 m7) (h8 : XV X W ρ e8 m8) (hg : Gl X x := by rfl) (hdb : (x == ("__debug__" : Str)) = false := by decide)
    (s1 : starEach [e1, e2, e3, e4, e5, e6, e7, e8] X.env = (false, eval e1 X.env) :: starEach [e2, e3, e4, e5, e6, e7, e8] X.env := by rfl) (s2 : starEach [e2, e3, e4, e5, e6, e7, e8] X.env = (false, eval e2 X.env) :: starEach [e3, e4, e5, e6, e7, e8] X.env := by rfl) (s3 : starEach [e3, e4, e5, e6, e7, e8] X.env = (false, eval e3 X.env) :: starEach [e4, e5, e6, e7, e8] X.env := by rfl) (s4 : starEach [e4, e5, e6, e7, e8] X.env = (false, eval e4 X.env) :: starEach [e5, e6, e7, e8] X.env := by rfl) (s5 : starEach [e5, e6, e7, e8] X.env = (false, eval e5 X.env) :: starEach [e6, e7, e8] X.env := by rfl) (s6 : starEach [e6, e7, e8] X.env = (false, eval e6 X.env) :: starEach [e7, e8] X.env := by rfl) (s7 : starEach [e7, e8] X.env = (false, eval e7 X.env) :: starEach [e8] X.env := by rfl) (s8 : starEach [e8] X.env = (false, eval e8 X.env) :: starEach [] X.env := by rfl) (hpl : (backTo pos (starEach [e2, e3, e4, e5, e6, e7, e8] X.env)).any (·.1) = false := by rfl) :
    XV X W ρ (.Call (.Name x p) [e1, e2, e3, e4, e5, e6, e7, e8] [] pos) (do
    let x1 ← m1
    let x2 ← m2
    let x3 ← m3
    let x4 ← m4
    let x5 ← m5
    let x6 ← m6
    let x7 ← m7
    let x8 ← m8
    f x1 x2 x3 x4 x5 x6 x7 x8) := by
  have G2 : FnV X.prog X.w X.K X.mg X.base k fa fd ps (fun ds r => ∃ i : α1 × α2 × α3 × α4 × α5 × α6 × α7 × α8, ds = [toD (i.1), toD (i.2.1), toD (i.2.2.1), toD (i.2.2.2.1), toD (i.2.2.2.2.1), toD (i.2.2.2.2.2.1), toD (i.2.2.2.2.2.2.1), toD (i.2.2.2.2.2.2.2)] ∧ r = (f (i.1) (i.2.1) (i.2.2.1) (i.2.2.2.1) (i.2.2.2.2.1) (i.2.2.2.2.2.1) (i.2.2.2.2.2.2.1) (i.2.2.2.2.2.2.2)).map toD) := ⟨fun vs H Q E ⟨F, ds, r, ⟨i, e1, e2⟩, q⟩ => G.len vs H Q E ⟨F, ds, r, ⟨i.1, i.2.1, i.2.2.1, i.2.2.2.1, i.2.2.2.2.1, i.2.2.2.2.2.1, i.2.2.2.2.2.2.1, i.2.2.2.2.2.2.2, e1, e2⟩, q⟩, fun A outer s H args us vs Q E hr e0 hb rv ⟨F, ds, r, ⟨i, e1, e2⟩, q⟩ => G.run A outer s H args us vs Q E hr e0 hb rv ⟨F, ds, r, ⟨i.1, i.2.1, i.2.2.1, i.2.2.2.1, i.2.2.2.2.1, i.2.2.2.2.2.1, i.2.2.2.2.2.2.1, i.2.2.2.2.2.2.2, e1, e2⟩, q⟩⟩
  refine (XV.callI (f := fun i => f (i.1) (i.2.1) (i.2.2.1) (i.2.2.2.1) (i.2.2.2.2.1) (i.2.2.2.2.2.1) (i.2.2.2.2.2.2.1) (i.2.2.2.2.2.2.2)) (mm := (do
    let x1 ← m1
    let x2 ← m2
    let x3 ← m3
    let x4 ← m4
    let x5 ← m5
    let x6 ← m6
    let x7 ← m7
    let x8 ← m8
    Res.ok (x1, x2, x3, x4, x5, x6, x7, x8))) G2 hr tk C.mg C.kp C.bn (XA.eq (XA.cons h1 (XA.cons h2 (XA.cons h3 (XA.cons h4 (XA.cons h5 (XA.cons h6 (XA.cons h7 (XA.cons h8 XA.nil s8) s7) s6) s5) s4) s3) s2) s1) ?_) hg hdb s1 hpl).eq ?_
  · cases m1 with
    | exc c i => rfl
    | stuck => rfl
    | ok y1 =>
      cases m2 with
      | exc c i => rfl
      | stuck => rfl
      | ok y2 =>
        cases m3 with
        | exc c i => rfl
        | stuck => rfl
        | ok y3 =>
          cases m4 with
          | exc c i => rfl
          | stuck => rfl
          | ok y4 =>
            cases m5 with
            | exc c i => rfl
            | stuck => rfl
            | ok y5 =>
              cases m6 with
              | exc c i => rfl
              | stuck => rfl
              | ok y6 =>
                cases m7 with
                | exc c i => rfl
                | stuck => rfl
                | ok y7 =>
                  cases m8 with
                  | exc c i => rfl
                  | stuck => rfl
                  | ok y8 =>
                    rfl
  · cases m1 with
    | exc c i => rfl
    | stuck => rfl
    | ok y1 =>
      cases m2 with
      | exc c i => rfl
      | stuck => rfl
      | ok y2 =>
        cases m3 with
        | exc c i => rfl
        | stuck => rfl
        | ok y3 =>
          cases m4 with
          | exc c i => rfl
          | stuck => rfl
          | ok y4 =>
            cases m5 with
            | exc c i => rfl
            | stuck => rfl
            | ok y5 =>
              cases m6 with
              | exc c i => rfl
              | stuck => rfl
              | ok y6 =>
                cases m7 with
                | exc c i => rfl
                | stuck => rfl
                | ok y7 =>
                  cases m8 with
                  | exc c i => rfl
                  | stuck => rfl
                  | ok y8 =>
                    rfl
end
end Vs
end
section
set_option Elab.async false
set_option linter.all false
set_option maxRecDepth 100000
set_option maxHeartbeats 1000000
/-! Vs12: small things that the printed derivations ask. -/
namespace Vs
open Enc (toD)
open PySem PySem.Spec PyProof.Rows L2
section
variable {X : Cx} {W : WX} {ρ : Rs} {pos : Pos} {α β γ S τ Ω : Type} [Enc α] [Enc β] [Enc γ]
/-! ### comparisons as tests -/
theorem rdT_V {n : Nat} {K : PySem.W.Frag} {m : Res Bool} {σ : St} {H : Hp} {Q : Bool → Hp → Prop} (h : rdT K n W ρ m σ H Q) : rdV K n W ρ (m.map toD) σ H fun v H' => ∃ k, v = .bl k ∧ Q k H' := by
  obtain ⟨F0, H0, F, R, p⟩ := h
  refine ⟨F0, H0, F, R, ?_⟩
  cases m with
  | exc c i => exact p
  | stuck => exact p
  | ok b => exact fun v F1 H1 g r => ⟨b, r.bl_of, p F1 H1 g⟩
theorem XT.cmp {a b : Expr} {o : CmpOp} {f : α → β → Bool} {ma : Res α} {mb : Res β} (op : CmpOk X o f) (ha : XW X W ρ a ma) (hb : XW X W ρ b mb) (hm : behindInMarks o b = false := by first | exact nomark _ | rfl) : XT X W ρ (.Compare a [o] [b] pos) (do
    let x ← ma
    let y ← mb
    .ok (f x y)) := PT.imp (pt_cmpR op ha hb hm) fun σ H Q h => rd_cmp (a := a) (b := b) (rdT_V h)
theorem rd_chain {a b c : Expr} {f : α → β → Bool} {f' : β → γ → Bool} {ma : Res α} {mb : Res β} {mc : Res γ} {σ : St} {H : Hp} {Q : VK} (h : rdV X.K X.N.length W ρ ((do
    let x ← ma
    let y ← mb
    if f x y then do
      let z ← mc
      Res.ok (f' y z)
    else .ok false).map toD) σ H Q) : tChain (rdCmp X.K f) (rdCmp X.K f') (rdW X.K X.N.length W ρ (ma.map toD)) (rdW X.K X.N.length W ρ (mb.map toD)) (rdW X.K X.N.length W ρ (mc.map toD)) σ H Q := by
  obtain ⟨F0, H0, F, R, p⟩ := h
  rw [Res.map_bind] at p
  refine ⟨F0, H0, F, R, ?_⟩
  cases ma with
  | exc c i => exact p
  | stuck => exact p
  | ok x =>
    intro v F1 H1 g1 r1
    refine ⟨F0, H0, F1, R.grow g1, ?_⟩
    have p1 := PostV.grow g1 p
    cases mb with
    | exc c i => exact p1
    | stuck => exact p1
    | ok y =>
      intro u F2 H2 g2 r2
      have p2 := PostV.grow g2 p1
      refine ⟨F2, x, y, g2.fh, r1.grow g2, r2, f x y, rfl, ?_⟩
      simp only [Res.ok_bind] at p2
      cases e : f x y with
      | false =>
        rw [e] at p2
        exact p2 _ F2 H2 (.refl g2.fh) (.bl _)
      | true =>
        rw [e] at p2
        simp only [if_true] at p2 ⊢
        refine ⟨F0, H0, F2, (R.grow g1).grow g2, ?_⟩
        cases mc with
        | exc c i => exact p2
        | stuck => exact p2
        | ok z => exact fun w F3 H3 g3 r3 => ⟨F3, y, z, g3.fh, r2.grow g3, r3, p2 _ F3 H3 g3 (.bl _)⟩
theorem XT.chain {a b c : Expr} {o o' : CmpOp} {f : α → β → Bool} {f' : β → γ → Bool} {ma : Res α} {mb : Res β} {mc : Res γ} (op : CmpOk X o f) (op' : CmpOk X o' f') (ha : XW X W ρ a ma) (hb : XW X W ρ b mb) (hc : XW X W ρ c mc)
    (hm : lastMarks [o, o'] [b, c] = false := by rfl) : XT X W ρ (.Compare a [o, o'] [b, c] pos) (do
    let x ← ma
    let y ← mb
    if f x y then do
      let z ← mc
      .ok (f' y z)
    else .ok false) := PT.imp (pt_chain op op' ha hb hc hm) fun σ H Q h => rd_chain (a := a) (b := b) (c := c) (rdT_V h)
theorem XT.isN {a : Expr} {ma : Res (Option α)} [NN α] {j : Nat} {p2 : Pos} (ha : XW X W ρ a ma) : XT X W ρ (.Compare a [.Is] [.Constant .none j p2] pos) (do
    let x ← ma
    .ok (decide (x = none))) := by
  refine PT.imp (pt_cmp (pc_isN ha) rfl) fun σ H Q ⟨F0, H0, F, R, p⟩ => ⟨F0, H0, F, R, ?_⟩
  cases ma with
  | exc c i => exact p
  | stuck => exact p
  | ok x =>
    intro v F1 H1 g1 r1
    have e : decide (v = .non) = decide (x = none) := by rw [decide_eq_decide]; exact r1.non_iff
    exact ⟨_, by rw [e], p F1 H1 g1⟩
theorem XT.notN {a : Expr} {ma : Res (Option α)} [NN α] {j : Nat} {p2 : Pos} (ha : XW X W ρ a ma) : XT X W ρ (.Compare a [.IsNot] [.Constant .none j p2] pos) (do
    let x ← ma
    .ok (!decide (x = none))) := by
  refine PT.imp (pt_cmp (pc_notN ha) rfl) fun σ H Q ⟨F0, H0, F, R, p⟩ => ⟨F0, H0, F, R, ?_⟩
  cases ma with
  | exc c i => exact p
  | stuck => exact p
  | ok x =>
    intro v F1 H1 g1 r1
    have e : decide (v = .non) = decide (x = none) := by rw [decide_eq_decide]; exact r1.non_iff
    exact ⟨_, by rw [e], p F1 H1 g1⟩
/-- some of the slots -/
theorem wk {ρ ρ' : Rs} (ks : List Nat) (h : ρ' = keepAt ρ ks := by rfl) : ∀ p ∈ ρ', p ∈ ρ := fun p hp => by rw [h] at hp; exact keep_mem hp
def dropE {τ : Type} : Res Empty → Res τ
  | .ok e => nomatch e
  | .exc c i => .exc c i
  | .stuck => .stuck
/-- if c: A, A raises -/
theorem XB.ifX {c : Expr} {A rest : List Stmt} {mc : Res Bool} {mA : Res Empty} {mr : Res τ} {fin : τ → Fi} (hc : XT X W ρ c mc) (hA : XB X W ρ A mA fun e => nomatch e) (hr : XB X W ρ rest mr fin) : XB X W ρ (.If c A [] pos :: rest) (do
    let b ← mc
    if b then dropE mA else mr) fin := by
  refine XB.ifR hc (PSs.imp hA fun D σ H ⟨F0, H0, F, R, p⟩ => ⟨F0, H0, F, R, ?_⟩) hr fun t e => ?_
  · cases mA with
    | ok e => exact nomatch e
    | exc c i => exact p
    | stuck => exact p
  · cases mA with
    | ok e => exact nomatch e
    | exc c i => cases e
    | stuck => cases e
/-- if c: A, A leaves by a return -/
theorem XB.ifE {c : Expr} {A rest : List Stmt} {mc : Res Bool} {mA : Res Ω} {mr : Res τ} {fin : τ → Fi} {ω : Ω → Fi} (exit : Ω → τ) (he : ∀ o, fin (exit o) = ω o) (hω : ∀ o ρ', ω o ≠ .nx ρ') (hc : XT X W ρ c mc) (hA : XB X W ρ A mA ω) (hr : XB X W ρ rest mr fin) :
    XB X W ρ (.If c A [] pos :: rest) (do
    let b ← mc
    if b then (do
      let o ← mA
      .ok (exit o)) else mr) fin := by
  have hA2 : XB X W ρ A (mA.map exit) fin := XB.map_fin (by
    have e : (fun s => fin (exit s)) = ω := funext he
    rw [e]; exact hA)
  rw [Res.map_eq_bind] at hA2
  refine XB.ifR hc hA2 hr fun t e ρ' h => ?_
  cases mA with
  | exc c i => cases e
  | stuck => cases e
  | ok o => cases e; rw [he] at h; exact hω o ρ' h
/-- target = e, the target names in a tuple -/
theorem XB.asgT (is : List Nat) {tg e : Expr} {rest : List Stmt} {me : Res α} {mr : α → Res τ} {fin : τ → Fi} (ρ' : α → Rs) (hN : X.N.Nodup) (he : XV X W ρ e me) (hg : ∀ x, XG X is ρ tg (toD x) (ρ' x)) (hr : ∀ x, XB X W (ρ' x) rest (mr x) fin)
    (hs : swapsWithSole [tg] e pos.line X.env = pure false := by rfl) (hw : swappedStores [tg] e X.env = pure none := by rfl) (h1 : (assignEach [tg] X.env).map (·.2) = [assign tg X.env] := by rfl) : XB X W ρ (.Assign [tg] e pos :: rest) (do
    let x ← me
    mr x) fin := by
  refine PSs.imp (pss_cons (ps_asg he (PG.ex (t := fun x => rdG X.K X.N.length is ρ (toD x) (ρ' x)) hg) hs hw h1) (PSs.ex hr)) fun D σ H ⟨F0, H0, F, R, p⟩ => ⟨F0, H0, F, R, ?_⟩
  have q := PostS.bind R p
  cases me with
  | exc c i => exact q
  | stuck => exact q
  | ok x =>
    intro v F1 H1 g r
    exact ⟨x, F0, H0, F1, R.grow g, r, fun σ' R' _ => ⟨x, F0, H0, F1, R', PostS.sub g.f p⟩⟩
theorem XV.min2 {a b : Expr} {p : Pos} {ma mb : Res Int} (hm : X.mg "min" = none) (ha : XV X W ρ a ma) (hb : XV X W ρ b mb) (hc : X.calm = true := by rfl) (hg : Gl X "min" := by rfl) (hs : starEach [a, b] X.env = (false, eval a X.env) :: starEach [b] X.env := by rfl) (hs2 : starEach [b] X.env = [(false, eval b X.env)] := by rfl) : XV X W ρ (.Call (.Name "min" p) [a, b] [] pos) (do
    let i ← ma
    let j ← mb
    .ok (Vs.min2 i j)) := XV.call2 (call_min2 hc) hg hm (by rfl) ha hb (by decide) (by decide) hs hs2
theorem XV.max2 {a b : Expr} {p : Pos} {ma mb : Res Int} (hm : X.mg "max" = none) (ha : XV X W ρ a ma) (hb : XV X W ρ b mb) (hc : X.calm = true := by rfl) (hg : Gl X "max" := by rfl) (hs : starEach [a, b] X.env = (false, eval a X.env) :: starEach [b] X.env := by rfl) (hs2 : starEach [b] X.env = [(false, eval b X.env)] := by rfl) : XV X W ρ (.Call (.Name "max" p) [a, b] [] pos) (do
    let i ← ma
    let j ← mb
    .ok (Vs.max2 i j)) := XV.call2 (call_max2 hc) hg hm (by rfl) ha hb (by decide) (by decide) hs hs2
theorem rgV_eq (a b : Int) : rgV a b = (rangeL a b).map V.int := by
  unfold rgV rangeL
  rw [List.map_map]; rfl
theorem rangeR_ok {a b : Int} {xs : List Int} (h : rangeR a b = .ok xs) : RgOk a b ∧ xs = rangeL a b := by
  unfold rangeR at h
  split at h
  · rename_i q; cases h; exact ⟨⟨q.1, q.2.1, q.2.2.1, q.2.2.2.1, q.2.2.2.2⟩, rfl⟩
  · cases h
theorem rangeR_no {a b : Int} {c : Str} {i : Int} : rangeR a b ≠ .exc c i := by unfold rangeR; split <;> intro h <;> cases h
theorem post_range {K : PySem.W.Frag} {W : WX} {F H F1 H1 : Hp} {a b : Int} {Q : VK} (g : Grow F H F1 H1) (p : PostF K W F H ((rangeR a b).map toD) Q) : RgOk a b ∧ ∀ q, H1 q = none → Q (.ref q) (upd H1 q (.lst (rgV a b))) := by
  cases e : rangeR a b with
  | exc c i => exact absurd e rangeR_no
  | stuck => rw [e] at p; exact p.elim
  | ok xs =>
    obtain ⟨h1, rfl⟩ := rangeR_ok e
    rw [e] at p
    refine ⟨h1, fun q nq => p q F1 _ (g.trans (.own g.fh nq)) (sub_free g.h nq) ⟨sub_free g.fh nq, .inl ⟨_, _, upd_same, ?_, rfl⟩⟩⟩
    rw [rgV_eq]
    exact rp_ints _
/-- list(range(b)) -/
theorem XF.listR1 {b : Expr} {p p2 pos2 : Pos} {mb : Res Int} (hc : X.calm = true) (hm : X.mg "list" = none) (hm2 : X.mg "range" = none) (hb : XV X W ρ b mb) (hg : Gl X "list" := by rfl) (hg2 : Gl X "range" := by rfl)
    (hs : starEach [b] X.env = (false, eval b X.env) :: starEach [] X.env := by rfl) (hs2 : starEach [.Call (.Name "range" p2) [b] [] pos2] X.env = (false, eval (.Call (.Name "range" p2) [b] [] pos2) X.env) :: starEach [] X.env := by rfl) :
    XF X W ρ (.Call (.Name "list" p) [.Call (.Name "range" p2) [b] [] pos2] [] pos) (do
    let n ← mb
    rangeR 0 n) := by
  refine PE.imp (pe_listRg hc hg hm (prg_1 hg2 hm2 hb hs) hs2) fun σ H Q ⟨F0, H0, F, R, p⟩ => ⟨F0, H0, F, R, ?_⟩
  cases mb with
  | exc c i => exact p
  | stuck => exact p
  | ok n => exact fun v F1 H1 g r => ⟨n, r.int_of, post_range g p⟩
/-- list(range(a, b)) -/
theorem XF.listR2 {a b : Expr} {p p2 pos2 : Pos} {ma mb : Res Int} (hc : X.calm = true) (hm : X.mg "list" = none) (hm2 : X.mg "range" = none) (ha : XV X W ρ a ma) (hb : XV X W ρ b mb) (hg : Gl X "list" := by rfl) (hg2 : Gl X "range" := by rfl)
    (hs : starEach [a, b] X.env = (false, eval a X.env) :: starEach [b] X.env := by rfl) (hs1 : starEach [b] X.env = (false, eval b X.env) :: starEach [] X.env := by rfl) (hp : (backTo pos2 (starEach [b] X.env)).any (·.1) = false := by rfl)
    (hs2 : starEach [.Call (.Name "range" p2) [a, b] [] pos2] X.env = (false, eval (.Call (.Name "range" p2) [a, b] [] pos2) X.env) :: starEach [] X.env := by rfl) :
    XF X W ρ (.Call (.Name "list" p) [.Call (.Name "range" p2) [a, b] [] pos2] [] pos) (do
    let x ← ma
    let y ← mb
    rangeR x y) := by
  refine PE.imp (pe_listRg hc hg hm (prg_2 hg2 hm2 ha hb hs hs1 hp) hs2) fun σ H Q ⟨F0, H0, F, R, p⟩ => ⟨F0, H0, F, R, ?_⟩
  cases ma with
  | exc c i => exact p
  | stuck => exact p
  | ok x =>
    intro v F1 H1 g1 r1
    refine ⟨F0, H0, F1, R.grow g1, ?_⟩
    cases mb with
    | exc c i => exact excG g1 p
    | stuck => exact p
    | ok y =>
      intro u F2 H2 g2 r2
      exact ⟨x, y, r1.int_of, r2.int_of, post_range (g1.trans g2) p⟩
/-- a display of some more -/
theorem XF.lstN {es : List Expr} {m : Res (List α)} (h : XL X W ρ es m) (hl : ∀ xs, m = .ok xs → xs.length ≤ 1000) : XF X W ρ (.List es pos) m := XF.lst h hl
end
end Vs
end
section
set_option Elab.async false
set_option linter.all false
set_option maxRecDepth 100000
set_option maxHeartbeats 2000000
/-! Vs13: the module's own errors: made by C(n), C a class under DigError(ValueError), whose __init__ says super().__init__(at); self.at = at. -/
namespace Vs
open Enc (toD)
open PySem PySem.Spec PyProof.Rows L2
/-! ### the text of __init__ -/
def dgA (p1 p2 : Pos) : Arguments := { posonlyargs := [], args := [{ arg := "self", annotation := none, pos := p1 }, { arg := "at", annotation := none, pos := p2 }], vararg := none, kwonlyargs := [], kw_defaults := [], kwarg := none, defaults := [] }
def dgB (q : Nat → Pos) : List Stmt := [.Expr (.Call (.Attribute (.Call (.Name "super" (q 0)) [] [] (q 1)) "__init__" (q 2)) [.Name "at" (q 3)] [] (q 4)) (q 5), .Assign [.Attribute (.Name "self" (q 6)) "at" (q 7)] (.Name "at" (q 8)) (q 9)]
def scOk (sc : Scope) : Bool := decide (sc.kind = .function) && (!sc.isCoroutine) && (!sc.isGenerator) && decide (sc.names.lookup ("self" : Str) = some .local) && decide (sc.names.lookup ("at" : Str) = some .local) && decide (sc.names.lookup ("super" : Str) = some .globalImplicit) &&
  decide (sc.names.lookup ("__class__" : Str) = some .free) && sc.names.all fun y => decide (y.2 ≠ .cell)
/-- the function's datum has this text; D is what its cell holds -/
def fdOk (K : PySem.W.Frag) (file : Str) (D : Addr) (fd : FuncData) : Bool := match fd with
  | ⟨_, qn, ⟨[], [⟨a1, none, _⟩, ⟨a2, none, _⟩], none, [], [], none, []⟩, .stmts [.Expr (.Call (.Attribute (.Call (.Name s1 _) [] [] _) m1 r2) [.Name n1 _] [] r4) _, .Assign [.Attribute (.Name n2 _) f1 _] (.Name n3 _) _], sc, g, [(cl, cc)], .none, .none, _, _, _, .ref cda, _, b⟩ =>
    (r2.endLine == r4.line) &&
    decide (a1 = "self") && decide (a2 = "at") && decide (s1 = "super") && decide (m1 = "__init__") && decide (n1 = "at") && decide (n2 = "self") && decide (f1 = "at") && decide (n3 = "at") && decide (cl = "__class__") && decide (g = mainGlobals) && decide (b = builtinsNs) && scOk sc &&
      PySem.W.codeIn K (.ref cda) qn && (match K.lookup cda with | some ⟨_, _, .fields vs, _⟩ => (match (vs[2]? : Option Value) with | some (.str fl _) => fl == file | _ => false) | _ => false) &&
      (match K.lookup cc with | some ⟨_, _, .cell (some (.ref d)), _⟩ => decide (d = D) | _ => false)
  | _ => false
/-- what that says -/
structure DgFn (K : PySem.W.Frag) (file : Str) (D : Addr) (fd : FuncData) : Prop where
  ex : ∃ (name qn : Str) (p1 p2 : Pos) (q : Nat → Pos) (sc : Scope) (cc cda : Addr) (doc pm ct : Value) (an : Option Addr), fd = PySem.W.ksFn name qn (dgA p1 p2) (dgB q) sc .none .none doc pm an (.ref cda) ct cc ∧ scOk sc = true ∧ ((q 2).endLine == (q 4).line) = true ∧ PySem.W.codeIn K (.ref cda) qn = true ∧
    (∃ a b vs c fl t, K.lookup cda = some ⟨a, b, .fields vs, c⟩ ∧ vs[2]? = some (.str fl t) ∧ (fl == file) = true) ∧ ∃ a b c, K.lookup cc = some ⟨a, b, .cell (some (.ref D)), c⟩
theorem fdOk_ok {K : PySem.W.Frag} {file : Str} {D : Addr} {fd : FuncData} (h : fdOk K file D fd = true) : DgFn K file D fd := by
  unfold fdOk at h
  split at h
  · rename_i name qn a1 P1 a2 P2 s1 r0 r1 m1 r2 n1 r3 r4 r5 n2 r6 f1 r7 n3 r8 r9 sc g cl cc doc pm an cda ct b
    simp only [Bool.and_eq_true, decide_eq_true_eq] at h
    obtain ⟨⟨⟨⟨⟨⟨⟨⟨⟨⟨⟨⟨⟨⟨⟨h0, h1⟩, h2⟩, h3⟩, h4⟩, h5⟩, h6⟩, h7⟩, h8⟩, h9⟩, h10⟩, h11⟩, h12⟩, h13⟩, h14⟩, h15⟩ := h
    subst h1 h2 h3 h4 h5 h6 h7 h8 h9 h10 h11
    refine ⟨name, qn, P1, P2, fun i => [r0, r1, r2, r3, r4, r5, r6, r7, r8, r9].getD i r0, sc, cc, cda, doc, pm, ct, an, rfl, h12, h0, h13, ?_, ?_⟩
    · split at h14
      · rename_i a b vs c e
        split at h14
        · rename_i fl t e2
          exact ⟨a, b, vs, c, fl, t, e, e2, h14⟩
        · cases h14
      · cases h14
    · split at h15
      · rename_i a b d c e
        have := of_decide_eq_true h15
        subst this
        exact ⟨a, b, c, e⟩
      · cases h15
  · cases h
/-! ### the class -/
def clsOk (K : PySem.W.Frag) (C : Addr) : Bool := match K.lookup C with
  | some ⟨.type "type", _, .cls cd, sl⟩ => (match cd.mro, sl.toList with
    | .ref C' :: bm, [_, _, _, _, some (.builtin n), _] => C' == C && n == "ValueError.__new__" && !cd.hasDel && cd.hasDict && PySem.HandSPX.refsVE bm
    | _, _ => false)
  | _ => false
theorem clsOk_ok {K : PySem.W.Frag} {C : Addr} (h : clsOk K C = true) : ∃ nm q N bs bm sn sub ab col dd k0 k1 k2 k3 k5, K.lookup C = some (excClassObj nm q C N bs bm true sn sub ab col dd k0 k1 k2 k3 k5 "ValueError.__new__") ∧ PySem.HandSPX.refsVE bm = true := by
  unfold clsOk at h
  split at h
  · rename_i dd cd sl ho
    split at h
    · rename_i C' bm k0 k1 k2 k3 n k5 hm hs
      simp only [Bool.and_eq_true, beq_iff_eq, Bool.not_eq_true'] at h
      obtain ⟨⟨⟨⟨rfl, rfl⟩, hdel⟩, hdc⟩, ht⟩ := h
      obtain ⟨nm, bs, mro, ns, qn, hd, sn, sub, ab, col, del⟩ := cd
      dsimp only at hm hdel hdc
      subst hm hdel hdc
      obtain ⟨l⟩ := sl
      simp only at hs
      subst hs
      exact ⟨nm, qn, ns, bs, bm, sn, sub, ab, col, dd, k0, k1, k2, k3, k5, ho, ht⟩
    · cases h
  · cases h
/-- all that is asked of the class c, its base D and the __init__ -/
def digB (file : Str) (K : PySem.W.Frag) (D c : Str) : Bool :=
  let C := He.ga K c
  let B := He.ga K D
  decide (PySem.W.nsIn K mainGlobals c = some (some (.ref C))) && clsOk K C && decide (PySem.W.findIn K (.ref C) "__setattr__" = some (some (.builtin "object.__setattr__"))) && xfB K C && decide (PySem.W.findIn K (.ref C) "at" = some none) &&
    decide (PySem.W.typeIn K (.ref C) = some (.type "type")) && PySem.W.keepIn K (.ref C) && decide (PySem.W.nsIn K cStatics "thirdparty.any" = some none) && decide (PySem.W.nsIn K mainGlobals "super" = some none) && decide (PySem.W.mroIn K C (.ref B) = some true) &&
    decide (PySem.W.ks_superIn K C B "__init__" = some (some (.builtin "ValueError.__init__"))) && (PySem.W.clsIn K B).isSome &&
    (match PySem.W.findIn K (.ref C) "__init__" with
      | some (some (.ref f)) => decide (PySem.W.typeIn K (.ref f) = some (.type "function")) && (match K.lookup f with | some ⟨_, _, .func fd, _⟩ => fdOk K file B fd | _ => false)
      | _ => false)
structure DigT (P : Program) (K : PySem.W.Frag) (mg : Str → Option Value) (c : Str) : Prop where
  gC : mg c = some (.ref (He.ga K c))
  cls : ∃ nm q N bs bm sn sub ab col dd k0 k1 k2 k3 k5, K.lookup (He.ga K c) = some (excClassObj nm q (He.ga K c) N bs bm true sn sub ab col dd k0 k1 k2 k3 k5 "ValueError.__new__") ∧ PySem.HandSPX.refsVE bm = true
  sa : PySem.W.findIn K (.ref (He.ga K c)) "__setattr__" = some (some (.builtin "object.__setattr__"))
  xf : XfC K (He.ga K c)
  noN : PySem.W.findIn K (.ref (He.ga K c)) "at" = some none
  tyC : PySem.W.typeIn K (.ref (He.ga K c)) = some (.type "type")
  kC : PySem.W.keepIn K (.ref (He.ga K c)) = true
  opq : PySem.W.nsIn K cStatics "thirdparty.any" = some none
  sup : mg "super" = none
  D : ∃ D, PySem.W.mroIn K (He.ga K c) (.ref D) = some true ∧ PySem.W.ks_superIn K (He.ga K c) D "__init__" = some (some (.builtin "ValueError.__init__")) ∧ (PySem.W.clsIn K D).isSome = true ∧
    ∃ fI oc od fd osl, PySem.W.findIn K (.ref (He.ga K c)) "__init__" = some (some (.ref fI)) ∧ PySem.W.typeIn K (.ref fI) = some (.type "function") ∧ K.lookup fI = some ⟨oc, od, .func fd, osl⟩ ∧ DgFn K P.main.file D fd
  top : (P.main.scope.names.lookup ("super" : Str)).isSome = false
theorem digB_ok {P : Program} {K : PySem.W.Frag} {h : Heap} {mg : Str → Option Value} (X : K.In h) (G : h.Ns mainGlobals mg) {D c : Str} (q : digB P.main.file K D c = true) (top : (P.main.scope.names.lookup ("super" : Str)).isSome = false) : DigT P K mg c := by
  unfold digB at q
  simp only [Bool.and_eq_true, decide_eq_true_eq] at q
  obtain ⟨⟨⟨⟨⟨⟨⟨⟨⟨⟨⟨⟨h1, h2⟩, h3⟩, h4⟩, h5⟩, h6⟩, h7⟩, h8⟩, h9⟩, h10⟩, h11⟩, h12⟩, h13⟩ := q
  refine ⟨PySem.W.mg_of X G h1, clsOk_ok h2, h3, xfB_ok h4, h5, h6, h7, h8, PySem.W.mg_none_of X G h9, ⟨He.ga K D, h10, h11, h12, ?_⟩, top⟩
  split at h13
  · rename_i f e
    simp only [Bool.and_eq_true, decide_eq_true_eq] at h13
    obtain ⟨t1, t2⟩ := h13
    split at t2
    · rename_i oc od fd osl e2
      exact ⟨f, oc, od, fd, osl, e, t1, e2, fdOk_ok t2⟩
    · cases t2
  · cases h13
/-! ### __init__ runs -/
section
open PySem.W PySem.Calls
variable {P : Program} {w : World} {A : Around} {E : Value → Shared → Prop} {R : Result → Shared → Prop} {K : PySem.W.Frag}
/-- super().__init__, bound, is called -/
theorem call_mw {hh : Heap} {g : Array GenState} {d : Drawn} {t : Nat} {os : OsState} {nm q : Str} {C N : Addr} {bs bm : List Value} {hdct : Bool} {sn : List Str} {sub : List Value} {ab : Bool} {col : Option Bool} {dd : Option Addr} {k0 k1 k2 k3 k5 : Option Value} {u e t0 : Addr} {rest : List Value} {Q : Value → Shared → Prop}
    (hC : hh.get? C = some (excClassObj nm q C N bs bm hdct sn sub ab col dd k0 k1 k2 k3 k5 "ValueError.__new__")) (he : hh.get? e = some (PySem.HandSPX.excO C t0)) (hu : hh.get? u = some (kxs_mw "ValueError.__init__" e)) (hrest : rest.length ≤ sizeLine)
    (hq : ∀ h' t1, (∀ b o, b ≠ e → hh.get? b = some o → h'.get? b = some o) → h'.get? e = some (PySem.HandSPX.excO C t1) → Q .none ⟨h', g, d, t, os⟩) :
    wpAny (model P w) A (call (.ref u) rest) Q E ⟨hh, g, d, t, os⟩ := by
  refine wpAny_call (codeAny_of_tree ?_)
  show wpAny _ A.in1 (callAny (.ref u) ⟨rest, []⟩) _ _ _
  simp only [callAny]
  refine wpAny_bind (wpAny_load hu ?_)
  simp only [kxs_mw, show (Value.type "method-wrapper" == Value.type "method" || Value.type "method-wrapper" == Value.type "builtin_function_or_method" || Value.type "method-wrapper" == Value.type "method-wrapper") = true by decide, if_true]
  refine KFB.if_so (by decide) (wpAny_bind (PySem.ESX.check_bound F.excBase_ValueError hC he rfl (wpAny_bind (wpAny_pure (wpAny_pure ⟨Code.quiet_builtin _ (by decide +kernel), codeAny_builtin F.excBase_ValueError.initEntry ?_⟩)))))
  rw [Around.under_plainId F.excBase_ValueError.init.plain _]
  wp_walk
  refine hq _ hh.objs.size (fun b o hb ho => (Heap.get?_update_other _ _ (Ne.symm hb)).trans (Heap.get?_push_of_some _ ho)) ?_
  rw [Heap.get?_update_self _ (Heap.get?_push_of_some _ he) rfl]; rfl
structure DgEnd (h h' : Heap) (x C dx t1 : Addr) (v : Value) : Prop where
  keep : ∀ b o, b ≠ x → h.get? b = some o → h'.get? b = some o
  obj : h'.get? x = some { cls := .ref C, dict := some dx, data := .fields #[.ref t1, .none, .none, .none, .bool false, .none] }
  dbig : h.objs.size ≤ dx
  dne : dx ≠ x
  ns : h'.Ns1 dx (fun y => if y = "at" then some v else none)
theorem dg_init {mg mb : Str → Option Value} {c : Str} {s : Shared} {x t0 : Addr} {v : Value} (T : DigT P K mg c) (X : K.In s.heap) (hG : s.heap.Ns mainGlobals mg) (hB : s.heap.Ns builtinsNs mb) (hbb : ∀ x : Str, x ≠ "__name__" → mb x = bootBuiltins x) (hlim : s.heap.NoLimit)
    (hx : s.heap.get? x = some (PySem.HandSPX.excO (He.ga K c) t0)) (hnx : K.lookup x = none) (hroom : A.depth < recursionLimit) {fI : Addr} (hfI : findIn K (.ref (He.ga K c)) "__init__" = some (some (.ref fI)))
    (hq : ∀ h' tk dx t1, DgEnd s.heap h' x (He.ga K c) dx t1 v → R (.ok (.ret .none)) { s with heap := h', toks := tk }) : codeAny (model P w) A (.call (.ref fI) ⟨[.ref x, v], []⟩) R s := by
  obtain ⟨D, hmro, hsup, hcD, fI', oc, od, fd, osl, e1, hty, lk, Fd⟩ := T.D
  rw [hfI] at e1
  obtain rfl : fI = fI' := by cases e1; rfl
  obtain ⟨name, qn, p1, p2, q, sc, cc, cda, doc, pm, ct, an, rfl, hsc, hline, hcode, ⟨ca, cb, vs, c4, fl, tf, hcda, hvs, hfile⟩, ⟨la, lb, lc, hcell⟩⟩ := Fd.ex
  unfold scOk at hsc
  simp only [Bool.and_eq_true, decide_eq_true_eq, Bool.not_eq_true'] at hsc
  obtain ⟨⟨⟨⟨⟨⟨⟨k1, k2⟩, k3⟩, k4⟩, k5⟩, k6⟩, k7⟩, k8⟩ := hsc
  obtain ⟨nm, qq, N, bs, bm, sn, sub, ab, col, dd, j0, j1, j2, j3, j5, hC, hbm⟩ := T.cls
  have hcl : clsIn K (He.ga K c) = some { name := nm, bases := bs, mro := .ref (He.ga K c) :: bm, ns := N, qualname := qq, hasDict := true, slotNames := sn, subclasses := sub, abstract := ab, collection := col, hasDel := false } := by unfold clsIn; rw [hC] <;> rfl
  refine ks_codeAny_call_defAt (binds := [("self", .ref x), ("at", v)]) hroom (X _ _ lk) rfl hlim (codeRec_of X hcode) rfl (BindsTo.of_eq (by first | rfl | with_unfolding_all rfl)) (fun y hy => of_decide_eq_true (List.all_eq_true.mp k8 y hy)) (fun y hy => ?_) (fun h1 hns kp => ?_) k2 k3 k1
  · rcases List.mem_cons.mp hy with e | hy
    · rw [e]; exact k4
    · rw [List.mem_singleton.mp hy]; exact k5
  have X1 : K.In h1 := X.keeps kp
  have hx1 := kp _ _ hx
  have hG1 : h1.Ns mainGlobals mg := let ⟨o, es, ep, a1, a2, a3⟩ := hG; ⟨o, es, ep, kp _ _ a1, a2, a3⟩
  have hB1 : h1.Ns builtinsNs mb := let ⟨o, es, ep, a1, a2, a3⟩ := hB; ⟨o, es, ep, kp _ _ a1, a2, a3⟩
  have I1 : InstAt h1 x (PySem.HandSPX.excO (He.ga K c) t0) (He.ga K c) none := ⟨hx1, rfl, rfl, trivial⟩
  have hself : (List.lookup ("self" : Str) ([("self", Value.ref x), ("at", v)] : List (Str × Value)).reverse) = some (.ref x) := by first | rfl | with_unfolding_all rfl | kernel_rfl
  have hat : (List.lookup ("at" : Str) ([("self", Value.ref x), ("at", v)] : List (Str × Value)).reverse) = some v := by first | rfl | with_unfolding_all rfl | kernel_rfl
  obtain ⟨cdD, ecD⟩ := Option.isSome_iff_exists.mp hcD
  obtain ⟨oD, hD1, hD2⟩ : ∃ oD, h1.get? D = some oD ∧ oD.data = .cls cdD := by
    unfold clsIn at ecD
    split at ecD
    · rename_i a b cd' sl ho
      cases ecD
      exact ⟨_, X1 _ _ ho, rfl⟩
    · cases ecD
  have hal : alongIn K "__init__" (((Value.ref (He.ga K c) :: bm).dropWhile (· != .ref D)).drop 1) = some (some (.builtin "ValueError.__init__")) := by
    have := hsup
    unfold ks_superIn at this
    rw [hcl] at this
    exact this
  have hxs : s.heap.objs.size ≠ x := Nat.ne_of_gt (Heap.lt_size hx)
  have he : ∀ env : Env, eval (.Call (.Attribute (.Call (.Name "super" (q 0)) [] [] (q 1)) "__init__" (q 2)) [.Name "at" (q 3)] [] (q 4)) env = (do
      let ov ← attributeBase (.Call (.Name "super" (q 0)) [] [] (q 1)) "__init__" env (eval (.Call (.Name "super" (q 0)) [] [] (q 1)) env)
      standAt (q 2).atName
      let (f, first) ← holding [ov] (getMethod ov "__init__" (do return (← importBound (.Call (.Name "super" (q 0)) [] [] (q 1)) env).getD true))
      callWith (q 4) f first (backTo (q 4) (starEach [.Name "at" (q 3)] env)) []) := fun env => by
    have hform : methodCallForm (([Expr.Name "at" (q 3)] : List Expr).length + ([] : List Keyword).length) (backTo (q 4) (starEach [.Name "at" (q 3)] env)) (backToKw (q 4) (keywordEach [] env)) = true := rfl
    have hpos : methodCallPos true (.Call (.Name "super" (q 0)) [] [] (q 1)) env (q 2) (q 4) = pure (q 4) := by unfold methodCallPos; simp [hline]
    rw [arm_eval_Call]
    unfold methodCall calleeOf
    simp only [hform, hpos, pure_bind, if_true]
    rfl
  have hinter : ∀ L, interactive (callEnv (ksFn name qn (dgA p1 p2) (dgB q) sc .none .none doc pm an (.ref cda) ct cc) L fI) = false := fun L => by
    unfold interactive
    simp [callEnv, newEnv, k1]
  -- super().__init__(at)
  refine ks_wpAt_execs_cons (ks_wpAt_Expr_any (ks_wpAt_MethodCall (ks_wpAt_super_base (env := ksEnv qn sc s.heap.objs.size fI (.ref cda) cc) k6 k7 (by decide) rfl (X1 _ _ lk) rfl rfl rfl (X1 _ _ hcda) rfl hvs (by rw [beq_iff_eq] at hfile ⊢; exact hfile.symm) T.top ?_) (he _)) (hinter _))
  refine ks_loadName_global k1 k6 (loadGlobal_builtin (env := ksEnv qn sc s.heap.objs.size fI (.ref cda) cc) hG1 T.sup hB1 ((hbb _ (by decide +kernel)).trans (by kernel_rfl)) ⟨rfl, ?_⟩)
  refine wpAny_loadName_free k1 k7 rfl ⟨_, X1 _ _ hcell, rfl⟩ ?_
  refine wpAny_loadName_local k1 k4 hns hself ?_
  refine ks_wpAny_isType_cls hD1 hD2 ⟨rfl, ?_⟩
  refine ks_wpAny_call_super hD1 hD2 I1.at_ I1.cls (fun c e => by cases e) (looks_mroIn X1 hmro) (fun h2 eso k2 => ?_)
  have X2 : K.In h2 := X1.keeps k2
  have hx2 := k2 _ _ hx1
  refine kxs_getMethod kxs_ValueError (l₀ := .ref (He.ga K c) :: bm) eso (looks_opaque X2 T.opq) (fun A Q E s k q => wpAny_bind ((looks_clsIn X2 hcl) A _ E s k (wpAny_pure q))) rfl X2 hal ((InstAt.type (⟨hx2, rfl, rfl, trivial⟩ : InstAt h2 x (PySem.HandSPX.excO (He.ga K c) t0) (He.ga K c) none)).andThen (looks_mroIn X2 (by
    unfold mroIn
    rw [hcl, Option.bind_some]
    have e1 : (Value.ref (He.ga K c) :: bm).contains (.type "ValueError") = true := by
      rw [List.contains_cons, PySem.HandSPX.refsVE_contains "ValueError" bm hbm, Bool.or_eq_true]; exact .inr (by decide +kernel)
    rw [if_neg (show ¬ (List.isEmpty (Value.ref (He.ga K c) :: bm) = true) from Bool.false_ne_true), e1]))) (ks_ne X2 (⟨hx2, rfl, rfl, trivial⟩ : InstAt h2 x (PySem.HandSPX.excO (He.ga K c) t0) (He.ga K c) none) hcl) (by decide) ?_
  have k3 : ∀ b o, h1.get? b = some o → (h2.push (kxs_mw "ValueError.__init__" x)).get? b = some o := fun b o e => Heap.get?_push_of_some _ (k2 b o e)
  have hu3 : (h2.push (kxs_mw "ValueError.__init__" x)).get? h2.objs.size = some (kxs_mw "ValueError.__init__" x) := Heap.get?_push_at rfl rfl
  have X3 : K.In (h2.push (kxs_mw "ValueError.__init__" x)) := X1.keeps k3
  have ns3 : (h2.push (kxs_mw "ValueError.__init__" x)).Ns s.heap.objs.size (fun y => List.lookup y ([("self", Value.ref x), ("at", v)] : List (Str × Value)).reverse) := let ⟨o, es, ep, a1, a2, a3⟩ := hns; ⟨o, es, ep, k3 _ _ a1, a2, a3⟩
  refine kxs_callWith (i := "ValueError.__init__") (x := x) rfl (evalArgs_plain ?_)
  refine Calls.spliced_cons (ldc k1 k5 ns3 hat (Calls.spliced_nil ⟨hu3, ?_⟩))
  refine call_mw (X3 _ _ hC) (k3 _ _ hx1) hu3 (by show 1 ≤ sizeLine; rw [sizeLine_eq]; omega) fun h4 t1 m4 hx4 => ?_
  have X4 : K.In h4 := fun a o e => m4 a o (fun z => by rw [z, hnx] at e; cases e) (X3 a o e)
  have ns4 : h4.Ns s.heap.objs.size (fun y => List.lookup y ([("self", Value.ref x), ("at", v)] : List (Str × Value)).reverse) := let ⟨o, es, ep, a1, a2, a3⟩ := ns3; ⟨o, es, ep, m4 _ _ hxs a1, a2, a3⟩
  -- self.at = at
  refine wpAt_of_wpAny (wpAny_execs_cons (plainObj_wpAny_Assign_Attribute ?_))
  refine ldc k1 k5 ns4 hat (ldc k1 k4 ns4 hself ?_)
  refine set_plain X4 (ox := PySem.HandSPX.excO (He.ga K c) t1) (od := none) ⟨hx4, rfl, rfl, trivial⟩ T.sa ?_
  refine PySem.HandSPX.exc_osa X4 hx4 hcl (show PySem.HandSPX.refsVE (.ref (He.ga K c) :: bm) = true from hbm) rfl T.noN (fun h5 tk5 dx q5 dn dne hx5 hn5 => ?_)
  refine wpAny_execs_nil (hq h5 tk5 dx t1 ⟨fun b o hb e => q5 b o hb (m4 b o hb (k3 b o (kp b o e))), hx5, ?_, dne, hn5⟩)
  have z : s.heap.objs.size < h4.objs.size := ns4.lt
  exact Nat.le_of_lt (Nat.lt_of_lt_of_le z dn)
/-- a made one -/
structure DgMade (h h' : Heap) (e C d : Addr) (v : Value) : Prop where
  keep : ∀ b o, h.get? b = some o → h'.get? b = some o
  new : h.objs.size ≤ e
  obj : ∃ oe vs, h'.get? e = some oe ∧ oe.cls = .ref C ∧ oe.dict = some d ∧ oe.data = .fields vs ∧ vs[1]? = some .none
  dbig : h.objs.size ≤ d
  dne : d ≠ e
  ns : h'.Ns1 d (fun y => if y = "at" then some v else none)
theorem ns_keep {h h' : Heap} {L : Addr} {m : Str → Option Value} (k : ∀ b o, h.get? b = some o → h'.get? b = some o) (n : h.Ns L m) : h'.Ns L m := let ⟨o, es, ep, a1, a2, a3⟩ := n; ⟨o, es, ep, k _ _ a1, a2, a3⟩
theorem dg_made {mg mb : Str → Option Value} {c : Str} {s : Shared} {v : Value} (T : DigT P K mg c) (X : K.In s.heap) (hG : s.heap.Ns mainGlobals mg) (hB : s.heap.Ns builtinsNs mb) (hbb : ∀ x : Str, x ≠ "__name__" → mb x = bootBuiltins x) (hlim : s.heap.NoLimit) (hroom : A.depth + 1 < recursionLimit)
    (hq : ∀ h' tk e d, DgMade s.heap h' e (He.ga K c) d v → R (.ok (.ret (.ref e))) { s with heap := h', toks := tk }) : codeAny (model P w) A (.call (.ref (He.ga K c)) ⟨[v], []⟩) R s := by
  obtain ⟨nm, q, N, bs, bm, sn, sub, ab, col, dd, k0, k1, k2, k3, k5, hC, hbm⟩ := T.cls
  obtain ⟨D, _, _, _, fI, oc, od, fd, osl, e1, hty, _, _⟩ := T.D
  obtain ⟨hp, g, dr, tk, os⟩ := s
  have k : ∀ b o, hp.get? b = some o → ((hp.push (kdv_tup [v])).push (PySem.HandSPX.excO (He.ga K c) hp.objs.size)).get? b = some o := fun b o e => Heap.get?_push_of_some _ (Heap.get?_push_of_some _ e)
  have hget : ((hp.push (kdv_tup [v])).push (PySem.HandSPX.excO (He.ga K c) hp.objs.size)).get? (hp.objs.size + 1) = some (PySem.HandSPX.excO (He.ga K c) hp.objs.size) := by heap_get
  have hnx : K.lookup (hp.objs.size + 1) = none := by
    cases e : K.lookup (hp.objs.size + 1) with
    | none => rfl
    | some o => exact absurd (Nat.lt_of_succ_lt (Heap.lt_size (show hp.get? _ = some o from X _ _ e))) (Nat.lt_irrefl _)
  refine PySem.HandSPX.call_own F.excBase_ValueError (fun X => PySem.HandSPX.refsVE_contains X bm hbm) (X _ _ hC) (looks_findIn X e1) (fun self => bind_fn X self hty) (by show 1 ≤ sizeLine; rw [sizeLine_eq]; omega) ?_
  refine dg_init (s := ⟨(hp.push (kdv_tup [v])).push (PySem.HandSPX.excO (He.ga K c) hp.objs.size), g, dr, tk, os⟩) T (X.keeps k) (ns_keep k hG) (ns_keep k hB) hbb (hlim.keeps k) hget hnx ?_ e1 fun h' tk' dx t1 M => ?_
  · show A.depth + 1 < recursionLimit
    exact hroom
  · have z : hp.objs.size + 1 + 1 ≤ dx := by
      have q := M.dbig
      simpa only [Heap.size_push] using q
    exact ⟨rfl, hq h' tk' (hp.objs.size + 1) dx ⟨fun b o e => M.keep b o (Nat.ne_of_lt (Nat.lt_succ_of_lt (Heap.lt_size e))) (k b o e), Nat.le_succ _, ⟨_, _, M.obj, rfl, rfl, rfl, rfl⟩, Nat.le_trans (Nat.le_trans (Nat.le_succ _) (Nat.le_succ _)) z, M.dne, M.ns⟩⟩
end
section
variable {X : Cx} {W : WX} {ρ : Rs} {pos2 pos p : Pos} {τ : Type}
/-- C(e) -/
theorem pmk_dig {c : Str} {k : Nat} {a : Expr} {ta : TA} (T : DigT X.prog X.K X.mg c) (gr : GRoom (k + 1) X.A) (ha : PA X [a] ta) (hg : Gl X c) (hdb : (c == ("__debug__" : Str)) = false)
    (he : starEach (a :: []) X.env = (false, eval a X.env) :: starEach [] X.env := by rfl) (hpl : (backTo pos (starEach [] X.env)).any (·.1) = false := by rfl) :
    PMk X (.Call (.Name c p) [a] [] pos) (fun σ H Q => ta σ H fun vs H1 => ∃ v, vs = [v] ∧ ∀ d, H1 d = none → Q (.ref (He.ga X.K c)) (some d) (upd H1 d (.xd [(("at" : Str), v)]))) := by
  intro pins s σ H Q I h
  refine wpAny_Call_Name_kw (ld_glob I hg T.gC ?_ hdb)
  refine PySem.W.callWith_K (h₀ := X.base) I.ok.mod.kin T.kC (thn (ha.run pos pins s σ H _ I h) fun us s1 ⟨vs, H1, I1, r1, v, ev, q1⟩ => ⟨I1.kIn, ?_⟩) he hpl
  subst ev
  obtain ⟨u, rfl, rv⟩ := r1.one
  show wpAny _ _ (call (.ref (He.ga X.K c)) [u]) _ _ _
  obtain ⟨mb, hb1, hb2⟩ := I1.ok.mod.blt
  have hlim := I1.nolimit
  have X1 := I1.kIn
  have G1 := ns_keep I1.bk I1.ok.mod.glob
  have B1 := ns_keep I1.bk hb1
  obtain ⟨hp, g, dr, tk, os⟩ := s1
  refine wpAny_call (dg_made T X1 G1 B1 hb2 hlim (by have := gr.r.dp; omega) fun h' tk' e d M => ?_)
  show MkP X pins σ Q (.ref e) ⟨h', g, dr, tk', os⟩
  obtain ⟨oe, fv, hoe, hc, hd, hdat, hone⟩ := M.obj
  obtain ⟨G', g1, g2⟩ := restrict h' fun b => decide (b ≠ e)
  have gk : ∀ b, b ≠ e → G'.get? b = h'.get? b := fun b hb => g1 b (decide_eq_true hb)
  have ge : G'.get? e = none := g2 e (by simp)
  have old : ∀ b o, hp.get? b = some o → G'.get? b = some o := fun b o z => (gk b (Nat.ne_of_lt (Nat.lt_of_lt_of_le (Heap.lt_size z) M.new))).trans (M.keep b o z)
  have hr : ∀ f, RelO (List.lookup f [(("at" : Str), v)]) (if f = "at" then some u else none) := fun f => by
    by_cases hf : f = "at"
    · subst hf; simp only [if_true, List.lookup_cons, beq_self_eq_true]; exact rv
    · have : (f == ("at" : Str)) = false := by simpa using hf
      rw [if_neg hf, List.lookup_cons, this]; exact True.intro
  have ob : ObjOk X.prog X.w (upd H1 d (.xd [(("at" : Str), v)])) G' d (.xd [(("at" : Str), v)]) := ⟨_, M.ns.at (fun o z => (gk d M.dne).trans z), hr⟩
  have J : Inv X pins σ (upd H1 d (.xd [(("at" : Str), v)])) ⟨G', g, dr, tk', os⟩ := I1.laid (t' := tk') old M.dbig ob
  refine ⟨e, oe, fv, ⟨G', g, dr, tk', os⟩, _, .ref (He.ga X.K c), some d, rfl, J, fun b o z => ?_, ge, hoe, ⟨hc, hd⟩, hdat, hone, ?_, rfl, I1.bare, raises_own T.xf.exC T.tyC, q1 d (I1.hok.fresh M.dbig)⟩
  · by_cases hb : b = e
    · have z' : G'.get? b = some o := z
      rw [hb, ge] at z'; cases z'
    · exact (gk b hb).symm.trans z
  · rw [upd_ne (Ne.symm M.dne)]
    exact I1.hok.fresh M.new
/-- raise C(e) -/
theorem XB.raise {c : Str} {k : Nat} {e : Expr} {rest : List Stmt} {me : Res Int} {fin : τ → Fi} (T : DigT X.prog X.K X.mg c) (gr : GRoom (k + 1) X.A) (hc : X.calm = true) (tk : Takes X W) (he : XV X W ρ e me) (hg : Gl X c := by rfl) (hdb : (c == ("__debug__" : Str)) = false := by decide)
    (hs : starEach (e :: []) X.env = (false, eval e X.env) :: starEach [] X.env := by rfl) : XB X W ρ (.Raise (some (.Call (.Name c p) [e] [] pos)) none pos2 :: rest) (do
    let i ← me
    .exc c i) fin := by
  refine PSs.imp (pss_cons (ps_raise hc tk (pmk_dig T gr (pa_cons he pa_nil hs) hg hdb hs rfl)) (pss_never (sts := rest))) fun D σ H ⟨F0, H0, F, R, p⟩ => ⟨F0, H0, F, R, ?_⟩
  cases me with
  | exc c i => exact excG R.base p
  | stuck => exact p
  | ok i =>
    intro v F1 H1 g r
    obtain rfl := r.int_of
    refine ⟨.int i, rfl, fun d nd => ?_⟩
    have p' : ∀ dx F' H' σ', Grow F0 H0 F' H' → XdAt H' dx i → H0 dx = none → W (cv X.K c) (some dx) σ' H' := p
    exact p' d F1 _ σ (R.base.trans (g.trans (.own g.fh nd))) upd_same (sub_free (R.base.trans g).h nd)
end
end Vs
end
section
set_option Elab.async false
set_option linter.all false
set_option maxRecDepth 100000
set_option maxHeartbeats 2000000
/-! Vs14: try with clauses 'except C as e', each of which returns; e.at; a def picked from a list. -/
namespace Vs
open Enc (toD)
open PySem PySem.Spec PyProof.Rows L2
/-- what the clauses wish, one after the other: the class, the name's slot, the suite's reading -/
def wMA (K : PySem.W.Frag) (Wo : WX) (D : Ends) : List (Value × Nat × (Addr → Value → Option Addr → TS)) → WX
  | [] => Wo
  | (c, i, ts) :: r => fun cls d σ H => ∃ b, PySem.W.exmOne K cls c = some b ∧
    (b = true → ∀ a, H a = none → ts a cls d { nx := fun σ' H' => D.nx (σ'.set i none) H', rt := D.rt, bk := fun σ' H' => D.bk (σ'.set i none) H', ct := fun σ' H' => D.ct (σ'.set i none) H' } (σ.set i (some (.ref a))) H) ∧ (b = false → wMA K Wo D r cls d σ H)
inductive HdA (X : Cx) : List ExceptHandler → List (Value × Nat × (Addr → Value → Option Addr → TS)) → Prop
  | nil : HdA X [] []
  | cons {x n : Str} {c : Value} {i : Nat} {ts : Addr → Value → Option Addr → TS} {b0 : Stmt} {su : List Stmt} {np pe : Pos} {hds : List ExceptHandler} {l : List (Value × Nat × (Addr → Value → Option Addr → TS))} (hi : X.N[i]? = some n) (hl : X.env.kindOf n = some .local) (hc : Names X x c)
      (hsu : ∀ (a : Addr) (oe : Obj) (cls : Value) (d : Option Addr) (pn : List (Addr × Obj)), Zc cls d oe → (∃ vs, oe.data = .fields vs) → PSs (X.suite a ((a, oe) :: pn)) (b0 :: su) (ts a cls d)) (r : HdA X hds l) : HdA X (.ExceptHandler (some (.Name x np)) (some n) (b0 :: su) pe :: hds) ((c, i, ts) :: l)
section
variable {X : Cx} {body : List Stmt} {h0 : ExceptHandler} {hds : List ExceptHandler} {l : List (Value × Nat × (Addr → Value → Option Addr → TS))} {pos : Pos} {tb : WX → TS} {Wo : WX}
theorem ps_tryA (hs : X.stack = X.env :: X.outer) (hf : X.env.frame = some X.env.locals) (hN : X.N.Nodup) (tk : Takes X Wo)
    (hb : ∀ (W : WX) (pn : List (Addr × Obj)) (xe : Value → Shared → Prop), Takes (X.tr pn xe) W → PassesOwn (model X.prog X.w) X.A X.env xe → PSs (X.tr pn xe) body (tb W)) (hh : HdA X (h0 :: hds) l) :
    PS X (.Try body (h0 :: hds) [] [] pos) (fun D σ H => tb (wMA X.K Wo D l) D σ H) := by
  refine ⟨fun pins s σ H D I h => ?_⟩
  have ok := I.ok
  have fr : X.A.frames = some (X.env :: X.outer) := by rw [ok.frames, hs]
  refine wpAny_Try_except (wpAny_mono ((hb (wMA X.K Wo D l) (X.pn ++ pins) (fun e t1 => wpAny (model X.prog X.w) X.A (noteFrame e X.env) (fun _ t2 => wpAny (model X.prog X.w) X.A (setFlight e none) (fun _ t3 =>
    wpAny (model X.prog X.w) X.A (handleBy e X.env (h0 :: hds)) (SP X pins D) X.xe t3) X.xe t2) X.xe t1) (fun u s' xx => ?_) PassesOwn.looking).run [] s σ H D (I.toTry _) h) (fun f t1 hsp => ?_) (fun e t1 he => he))
  · obtain ⟨a, B, sI, qs, σ1, H1, cls, d, rfl, Ji, nb, up, sky, na, os, ag, w⟩ := xx
    have J : Inv X pins σ1 H1 sI := Ji.ofTry ok
    have sky2 : Sky B (X.env :: X.outer) a (Zc cls d) X.env.locals s'.heap := by rw [← hs]; exact sky
    show wpAny (model X.prog X.w) X.A (noteFrame (.ref a) X.env) _ _ _
    refine Sky.land Zc.steady fr hf sky2 fun g3 fl3 up3 => ?_
    have J3 : Inv X pins σ1 H1 { s' with heap := g3 } := J.landed nb fl3.1 (up.trans up3) os ag
    obtain ⟨o3, v3, e3, z3, d3⟩ := fl3.there
    have nfr : a ∉ frs (X.env :: X.outer) := fun hm => by
      obtain ⟨_, o', e', hnf⟩ := fl3.2.2.1.mem hm
      rw [e3] at e'; cases e'
      exact hnf _ d3
    have nL : a ≠ X.env.locals := fun z => nfr (List.mem_filterMap.mpr ⟨X.env, List.mem_cons_self, by rw [hf, z]⟩)
    have nF : a ∉ X.fs := fun hm => by
      obtain ⟨e, he, q⟩ := List.mem_filterMap.mp hm
      exact nfr (List.mem_filterMap.mpr ⟨e, List.mem_cons_of_mem _ he, q⟩)
    have S3 := J3.suite e3 d3 na nL nF
    have go : ∀ {hs' : List ExceptHandler} {l' : List (Value × Nat × (Addr → Value → Option Addr → TS))}, HdA X hs' l' → wMA X.K Wo D l' cls d σ1 H1 → wpAny (model X.prog X.w) X.A (handleBy (.ref a) X.env hs') (SP X pins D) X.xe { s' with heap := g3 } := by
      intro hs' l' hk
      induction hk with
      | nil =>
        intro w
        refine wpAny_handleBy_nil ?_
        obtain ⟨_, _, _, oe, vs, T, _, _, he, _, hd, h1, _⟩ := id fl3
        unfold PySem.passOn
        refine wpAny_bind (wpAny_field he hd h1 ?_)
        rw [if_neg (show ¬ ((Value.ref T == Value.none) = true) from by simp)]
        have fin : wpAny (model X.prog X.w) X.A (setFlight (.ref a) X.env.frame) (fun _ s4 => wpAny (model X.prog X.w) X.A (throw (.ref a) : Sem Flow) (SP X pins D) X.xe s4) X.xe { s' with heap := g3 } := by
          rw [hf]
          exact HandSPX.setFlight_upZ fl3 fun h4 hh4 up4 => wpAny_throw (tk _ _ ⟨a, B, sI, pins, σ1, H1, cls, d, rfl, J, nb, (up.trans up3).trans up4, .inr (.inr (by rw [hs]; exact hh4)), na, os, ag, w⟩)
        first
          | exact wpAny_bind (wpAny_pure (wpAny_bind fin))
          | exact wpAny_bind fin
      | @cons x n c i ts b0 su np pe hds2 l2 hi hl hc hsu r ih =>
        intro w
        obtain ⟨b, hb1, hyes, hno⟩ := w
        refine wpAny_handleBy_cons (codeAny_handlers_test ?_) (by intro q; cases q)
        have LT : PySem.W.Looks (model X.prog X.w) g3 (typeOf (.ref a)) cls := fun A Q E s k q => wpAny_typeOf_ref (k _ _ e3) (by rw [z3.1]; exact q)
        have LM := PySem.W.exm_one (M := model X.prog X.w) J3.kIn LT hb1
        have test : ∀ {Q : Value → Shared → Prop} {E : Value → Shared → Prop}, Q c { s' with heap := g3 } → wpAny (model X.prog X.w) (X.A.mark (some (.ref a))) (eval (.Name x np) X.env) Q E { s' with heap := g3 } := fun {Q E} q => by
          obtain ⟨hg, hdb, hm | ⟨hm, hv, hnn⟩⟩ := hc
          · exact ld_glob (X := X.suite a ((a, o3) :: (X.pn ++ pins))) S3 hg hm q hdb
          · exact ld_blt (X := X.suite a ((a, o3) :: (X.pn ++ pins))) S3 hg hm hv q hnn hdb
        refine test (LM.here ?_)
        cases b with
        | false =>
          show wpAny _ X.A (handleBy (.ref a) X.env hds2) _ _ _
          exact ih (hno rfl)
        | true =>
          refine codeAny_handlers_suite_as (HandSPX.lands_againZ fl3 fun g4 fl4 up4 => ?_)
          have J4 : Inv X pins σ1 H1 { s' with heap := g4 } := J.landed nb fl4.1 ((up.trans up3).trans up4) os ag
          obtain ⟨o4, v4, e4, z4, d4⟩ := fl4.there
          have S4 := J4.suite e4 d4 na nL nF
          refine store_ok (X := X.suite a ((a, o4) :: (X.pn ++ pins))) (v := .ref a) S4 hN hi (.inl hl) rfl (fun s5 S5 => ?_) (.inr hl)
          refine wpAny_mono ((hsu a o4 cls d (X.pn ++ pins) z4 ⟨_, d4⟩).run [] s5 _ H1 _ S5 (hyes rfl a na)) (fun f s6 hsp => ?_) (fun _ _ z => False.elim z)
          have fin : ∀ {σ6 : St} {H6 : Hp} {Q : Shared → Prop}, Inv (X.suite a ((a, o4) :: (X.pn ++ pins))) [] σ6 H6 s6 → (∀ s7, Inv X pins (σ6.set i none) H6 s7 → Q s7) →
              wpAny (model X.prog X.w) X.A (do bindName X.env n .none; unbindBehindTheSuite X.env n pe) (fun _ s7 => Q s7) X.xe s6 := fun {σ6 H6 Q} S6 hq => gone_ok (S6.unsuite ok) hN hi hl hq
          match f, hsp with
          | .next, ⟨_, _, S6, q6⟩ => exact fin S6 fun s7 J7 => ⟨_, _, J7, q6⟩
          | .brk, ⟨_, _, S6, q6⟩ => exact fin S6 fun s7 J7 => ⟨_, _, J7, q6⟩
          | .cont, ⟨_, _, S6, q6⟩ => exact fin S6 fun s7 J7 => ⟨_, _, J7, q6⟩
          | .ret u, ⟨_, _, _, S6, r6, q6⟩ => exact fin S6 fun s7 J7 => ⟨_, _, _, J7, r6, q6⟩
    exact go hh w
  · match f, hsp with
    | .next, ⟨σ', H', Jt, q⟩ => exact wpAny_execs_nil ⟨σ', H', Jt.ofTry ok, q⟩
    | .brk, ⟨σ', H', Jt, q⟩ => exact ⟨σ', H', Jt.ofTry ok, q⟩
    | .cont, ⟨σ', H', Jt, q⟩ => exact ⟨σ', H', Jt.ofTry ok, q⟩
    | .ret u, ⟨v, σ', H', Jt, r, q⟩ => exact ⟨v, σ', H', Jt.ofTry ok, r, q⟩
end
/-! ### the mirror -/
section
variable {τ S : Type}
def catchC : List (Str × (Int → Res τ)) → Str → Int → Res τ
  | [], c, i => .exc c i
  | (cl, m) :: r, c, i => if c = cl then noX (m i) else catchC r c i
def tryR (known : List Str) (mB : Res S) (k : S → Res τ) (cs : List (Str × (Int → Res τ))) : Res τ := match mB with
  | .ok s => k s
  | .exc c i => if c ∈ known then catchC cs c i else .stuck
  | .stuck => .stuck
end
/-- which class is caught by which -/
def Exm (K : PySem.W.Frag) (known : List Str) : Prop := ∀ a ∈ known, ∀ b ∈ known, PySem.W.exmOne K (cv K a) (cv K b) = some (decide (a = b))
section
variable {X : Cx} {W : WX} {ρ : Rs} {pos : Pos} {S τ : Type}
inductive HdC (X : Cx) (known : List Str) (fin : τ → Fi) : List ExceptHandler → List (Str × (Int → Res τ)) → Prop
  | nil : HdC X known fin [] []
  | cons {cl n : Str} {i : Nat} {m : Int → Res τ} {b0 : Stmt} {su : List Stmt} {np pe : Pos} {hds : List ExceptHandler} {cs : List (Str × (Int → Res τ))} (hcl : cl ∈ known) (hi : X.N[i]? = some n) (hl : X.env.kindOf n = some .local) (hg : Gl X cl) (hdb : (cl == ("__debug__" : Str)) = false)
      (hsu : ∀ (a dx : Nat) (k : Int) (c : Str) (oe : Obj) (pn : List (Addr × Obj)), DigT X.prog X.K X.mg c → Zc (cv X.K c) (some dx) oe → (∃ vs, oe.data = .fields vs) → XB (X.suite a ((a, oe) :: pn)) (fun _ _ _ _ => False) [(i, SV.sh (toD (ERef.mk a dx k)))] (b0 :: su) (m k) fin)
      (r : HdC X known fin hds cs) : HdC X known fin (.ExceptHandler (some (.Name cl np)) (some n) (b0 :: su) pe :: hds) ((cl, m) :: cs)
/-- the reading of a clause's suite -/
def tsC (K : PySem.W.Frag) (n i : Nat) (known : List Str) (m : Int → Res τ) (fin : τ → Fi) : Addr → Value → Option Addr → TS := fun a cls d D σ H => ∃ (dx : Nat) (k : Int) (c : Str) (σ1 : St) (F0 H0 F : Hp), d = some dx ∧ cls = cv K c ∧ c ∈ known ∧ σ = σ1.set i (some (.ref a)) ∧
  Grow F0 H0 F H ∧ F dx = some (.xd [(("at" : Str), .int k)]) ∧ PostS K n (fun _ _ _ _ => False) F0 H0 F (m k) fin D
def lC (K : PySem.W.Frag) (n : Nat) (known : List Str) (fin : τ → Fi) : List ((Str × (Int → Res τ)) × Nat) → List (Value × Nat × (Addr → Value → Option Addr → TS)) := fun l => l.map fun z => (cv K z.1.1, z.2, tsC K n z.2 known z.1.2 fin)
theorem hdC_A {known : List Str} {fin : τ → Fi} (hT : ∀ c ∈ known, DigT X.prog X.K X.mg c) {hds : List ExceptHandler} {cs : List (Str × (Int → Res τ))} (h : HdC X known fin hds cs) :
    ∃ l, l.map (·.1) = cs ∧ HdA X hds (lC X.K X.N.length known fin l) ∧ ∀ z ∈ l, z.1.1 ∈ known := by
  induction h with
  | nil => exact ⟨[], rfl, .nil, fun z hz => nomatch hz⟩
  | @cons cl n i m b0 su np pe hds cs hcl hi hl hg hdb hsu r ih =>
    obtain ⟨l, e, ha, hk⟩ := ih
    refine ⟨((cl, m), i) :: l, by rw [List.map_cons, e], .cons hi hl ⟨hg, hdb, .inl (hT cl hcl).gC⟩ (fun a oe cls d pn hz hf => ⟨fun pins s σ H D I ⟨dx, k, c, σ1, F0, H0, F, e1, e2, hc, e3, g, fx, p⟩ => ?_⟩) ha, fun z hz => ?_⟩
    · subst e1 e2
      refine (hsu a dx k c oe pn (hT c hc) hz hf).run pins s σ H D I ⟨F0, H0, F, ⟨I.len, g, fun j d' hm => ?_, fun j d' hm => ?_, fun j1 j2 d1 d2 b m1 m2 _ _ => ?_⟩, p⟩
      · rw [List.mem_singleton] at hm
        cases hm
        have hlen : σ.length = X.N.length := I.len
        refine ⟨.ref a, ?_, .ex fx⟩
        rw [e3]
        refine List.getElem?_set_self ?_
        have q := (List.getElem?_eq_some_iff.mp hi).1
        rw [e3, List.length_set] at hlen
        omega
      · rw [List.mem_singleton] at hm; cases hm
      · rw [List.mem_singleton] at m1; cases m1
    · rcases List.mem_cons.mp hz with e | hz
      · rw [e]; exact hcl
      · exact hk z hz
/-- try: body (it goes on) / except C as e: .. (each returns) -/
theorem XB.tryC (known : List Str) {body rest : List Stmt} {h0 : ExceptHandler} {hds : List ExceptHandler} {mB : Res S} {mr : S → Res τ} {cs : List (Str × (Int → Res τ))} {fin : τ → Fi} (ρj : S → Rs) (ex : Exm X.K known) (hT : ∀ c ∈ known, DigT X.prog X.K X.mg c) (hN : X.N.Nodup) (tk : Takes X W)
    (hb : ∀ (W2 : WX) (pn : List (Addr × Obj)) (xe : Value → Shared → Prop), Takes (X.tr pn xe) W2 → PassesOwn (model X.prog X.w) X.A X.env xe → XB (X.tr pn xe) W2 ρ body mB fun s => .nx (ρj s)) (hh : HdC X known fin (h0 :: hds) cs) (hr : ∀ s, XB X W (ρj s) rest (mr s) fin) (hfin : ∀ t, ∃ d, fin t = .rt d)
    (hs : X.stack = X.env :: X.outer := by rfl) (hf : X.env.frame = some X.env.locals := by rfl) : XB X W ρ (.Try body (h0 :: hds) [] [] pos :: rest) (tryR known mB mr cs) fin := by
  obtain ⟨l, el, ha, hk⟩ := hdC_A hT hh
  refine PSs.imp (pss_cons (ps_tryA hs hf hN tk (tb := fun W2 => rdS X.K X.N.length W2 ρ mB fun s => .nx (ρj s)) hb ha) (PSs.ex hr)) fun D σ H ⟨F0, H0, F, R, p⟩ => ⟨F0, H0, F, R, ?_⟩
  cases mB with
  | stuck => exact p
  | ok s => exact fun σ' F' H' R' sf => ⟨s, F0, H0, F', R', PostS.sub sf p⟩
  | exc c i =>
    have p1 : PostS X.K X.N.length W F0 H0 F (if c ∈ known then catchC cs c i else .stuck) fin D := p
    by_cases hc : c ∈ known
    · rw [if_pos hc] at p1
      intro dx F' H' σ' g hx hn
      subst el
      -- the clauses, one after the other
      have key : ∀ l : List ((Str × (Int → Res τ)) × Nat), (∀ z ∈ l, z.1.1 ∈ known) → PostS X.K X.N.length W F0 H0 F (catchC (l.map (·.1)) c i) fin D →
          wMA X.K W { D with nx := fun σ H => ∃ s, rdS X.K X.N.length W (ρj s) (mr s) fin D σ H } (lC X.K X.N.length known fin l) (cv X.K c) (some dx) σ' H' := ?_
      exact key l hk p1
      intro l
      induction l with
      | nil =>
        intro hk p1
        have p2 : PostS X.K X.N.length W F0 H0 F (.exc c i : Res τ) fin D := p1
        exact p2 dx F' H' σ' g hx hn
      | cons z l ih =>
        intro hk p1
        obtain ⟨⟨cl, m⟩, j⟩ := z
        refine ⟨decide (c = cl), ex c hc cl (hk _ List.mem_cons_self), fun hb a na => ?_, fun hb => ?_⟩
        · have e := of_decide_eq_true hb
          have p2 : PostS X.K X.N.length W F0 H0 F (if c = cl then noX (m i) else catchC (l.map (·.1)) c i) fin D := p1
          rw [if_pos e] at p2
          have nf : ∀ o, F' dx = some o → o = .xd [(("at" : Str), .int i)] := fun o q => by
            have q2 := g.fh _ _ q
            rw [hx] at q2; cases q2; rfl
          have sf : Sub F' (upd F' dx (.xd [(("at" : Str), .int i)])) := fun b o q => by
            by_cases hb : b = dx
            · subst hb; rw [upd_same, nf o q]
            · rw [upd_ne hb]; exact q
          refine ⟨dx, i, c, σ', F0, H0, upd F' dx (.xd [(("at" : Str), .int i)]), rfl, rfl, hc, rfl, ⟨fun b o q => sf b o (g.f b o q), g.h, fun b o q => ?_, fun b hb => ?_⟩, upd_same, ?_⟩
          · by_cases hb : b = dx
            · subst hb; rw [upd_same] at q; cases q; exact hx
            · rw [upd_ne hb] at q; exact g.fh b o q
          · rw [upd_ne (fun q => hb.1 (by rw [q]; exact hn))]; exact g.fn b hb
          · cases em : m i with
            | exc c2 i2 => rw [em] at p2; exact p2.elim
            | stuck => rw [em] at p2; exact p2.elim
            | ok t =>
              rw [em] at p2
              obtain ⟨d, ed⟩ := hfin t
              have p3 : (match fin t with
                | .nx ρ' => ∀ σ' F' H', Rho X.K X.N.length F0 H0 F' H' σ' ρ' → Sub F F' → D.nx σ' H'
                | .rt d => ∀ v F' H', Grow F0 H0 F' H' → Rp X.K F' v d → D.rt v H'
                | .bk ρ' => ∀ σ' F' H', Rho X.K X.N.length F0 H0 F' H' σ' ρ' → Sub F F' → D.bk σ' H') := p2
              rw [ed] at p3
              show PostS X.K X.N.length (fun _ _ _ _ => False) F0 H0 _ (m i) fin _
              rw [em]
              show (match fin t with
                | .nx ρ' => _
                | .rt d => _
                | .bk ρ' => _)
              rw [ed]
              exact p3
        · have e := of_decide_eq_false hb
          have p2 : PostS X.K X.N.length W F0 H0 F (if c = cl then noX (m i) else catchC (l.map (·.1)) c i) fin D := p1
          rw [if_neg e] at p2
          exact ih (fun z hz => hk z (List.mem_cons_of_mem _ hz)) p2
    · rw [if_neg hc] at p1
      exact p1.elim
/-- e.at in a clause -/
theorem XV.excAt {a dx : Nat} {k : Int} {c nm : Str} {oe : Obj} {pn : List (Addr × Obj)} {i : Nat} {p : Pos} (T : DigT X.prog X.K X.mg c) (hz : Zc (cv X.K c) (some dx) oe) (hf : ∃ vs, oe.data = .fields vs) (j : Nat) (h : ρ[j]? = some (i, SV.sh (toD (ERef.mk a dx k)))) (hN : X.N[i]? = some nm := by rfl)
    (hv : Vis X.env.scope nm := by first | exact Or.inl rfl | exact Or.inr (Or.inl rfl) | exact Or.inr (Or.inr rfl)) (hd : (nm == ("__debug__" : Str)) = false := by decide) (hcd : (nm == ("__classdict__" : Str)) = false := by decide) :
    XV (X.suite a ((a, oe) :: pn)) W ρ (.Attribute (.Name nm p) "at" pos) (.ok k) := by
  refine PE.imp (pe_xf T.xf T.noN hz hf (pe_var (X := X.suite a ((a, oe) :: pn)) hN hv hd hcd)) fun σ H Q ⟨F0, H0, F, R, p⟩ => ?_
  obtain ⟨v, e1, r⟩ := R.sh i _ (List.mem_of_getElem? h)
  have r' : Rp X.K F v (.dict [(.int (a : Nat), .int (dx : Nat)), (.none, .int k)]) := r
  generalize ea : (a : Int) = za at r'
  generalize ed : (dx : Int) = zd at r'
  cases r' with
  | @ex a2 d2 k2 fx =>
    have h1 : a = a2 := Int.ofNat_inj.mp ea
    have h2 : dx = d2 := Int.ofNat_inj.mp ed
    subst h1 h2
    exact ⟨_, e1, rfl, rfl, dx, _, .int k, rfl, R.fh _ _ fx, by simp [List.lookup], p _ F H (.refl R.fh) (.int k)⟩
theorem takes0 {X : Cx} : Takes X W0 := takes_none5
end
end Vs
end
section
set_option Elab.async false
set_option linter.all false
set_option maxRecDepth 100000
set_option maxHeartbeats 2000000
/-! Vs15: [f, g][i](..): a def picked from a list and called. -/
namespace Vs
open Enc (toD)
open PySem PySem.Spec PyProof.Rows L2
def pickF {F : Type} (fs : List F) (i : Int) : Res F := getL fs i
section
variable {X : Cx} {W : WX} {ρ : Rs} {pos : Pos} {α β γ S τ Ω : Type} [Enc α] [Enc β] [Enc γ]
theorem rp_fn {K : PySem.W.Frag} {F : Hp} {v : V} {f : FnRef} (r : Rp K F v (toD f)) : v = .ref f.a := by
  have r' : Rp K F v (.dict [(.str Str.empty, .int (f.a : Nat))]) := r
  generalize ea : (f.a : Int) = za at r'
  cases r' with
  | @fn a2 =>
    have h1 : f.a = a2 := Int.ofNat_inj.mp ea
    rw [h1]
theorem XV.globF {x : Str} {fa : Addr} (hm : X.mg x = some (.ref fa)) (hg : Gl X x) (hd : (x == ("__debug__" : Str)) = false) : XV X W ρ (.Name x pos) (.ok (FnRef.mk fa)) := XV.glob (v := .ref fa) hg hm rfl (fun F => .fn) hd
/-- a def: its name, where it stands, what it promises (R) -/
structure FEnt (X : Cx) (k : Nat) (R : List PyData → Res PyData → Prop) : Type where
  x : Str
  fa : Addr
  fd : FuncData
  ps : List Str
  C : FnC X.K X.mg x fa fd ps
  G : FnV X.prog X.w X.K X.mg X.base k fa fd ps R
/-- the names of a list's display -/
inductive NmL (X : Cx) : List Expr → List (Str × Addr) → Prop
  | nil : NmL X [] []
  | cons {x : Str} {fa : Addr} {p : Pos} {es : List Expr} {l : List (Str × Addr)} (hm : X.mg x = some (.ref fa)) (hg : Gl X x) (hd : (x == ("__debug__" : Str)) = false) (hs : starEach (.Name x p :: es) X.env = (false, eval (.Name x p) X.env) :: starEach es X.env) (r : NmL X es l) : NmL X (.Name x p :: es) ((x, fa) :: l)
theorem NmL.xl {es : List Expr} {l : List (Str × Addr)} (h : NmL X es l) : XL X W ρ es (.ok (l.map fun z => FnRef.mk z.2)) := by
  induction h with
  | nil => exact XL.nil
  | cons hm hg hd hs r ih => exact XL.cons (XV.globF hm hg hd) ih hs
theorem dyn_map (m : Res α) : (m >>= fun z => Res.ok (dynR z)).map toD = m.map toD := by cases m <;> rfl
theorem getL_noF {A : Type} {xs : List A} {i : Int} {c : Str} {k : Int} : getL xs i ≠ .exc c k := by
  unfold getL
  intro h
  split at h <;> cases h
theorem getL_map {A B : Type} (f : A → B) {l : List A} {i : Int} {b : B} (h : getL (l.map f) i = .ok b) : ∃ a, getL l i = .ok a ∧ f a = b := by
  unfold getL at h ⊢
  rw [List.length_map] at h
  cases e : idx l.length i with
  | none => rw [e] at h; cases h
  | some j =>
    rw [e] at h
    simp only [Option.bind_some, List.getElem?_map] at h ⊢
    cases e2 : l[j]? with
    | none => rw [e2] at h; cases h
    | some a => rw [e2] at h; cases h; exact ⟨a, rfl, rfl⟩
theorem getL_zip {A B : Type} {l : List A} {m : List B} (hl : l.length = m.length) {i : Int} {a : A} (h : getL l i = .ok a) : ∃ (b : B) (j : Nat), getL m i = .ok b ∧ l[j]? = some a ∧ m[j]? = some b := by
  unfold getL at h ⊢
  rw [hl] at h
  cases e : idx m.length i with
  | none => rw [e] at h; cases h
  | some j =>
    rw [e] at h
    simp only [Option.bind_some] at h ⊢
    cases e2 : l[j]? with
    | none => rw [e2] at h; cases h
    | some a' =>
      rw [e2] at h; cases h
      have hj := (List.getElem?_eq_some_iff.mp e2).1
      exact ⟨m[j]'(by omega), j, by rw [List.getElem?_eq_getElem (by omega)], e2, List.getElem?_eq_getElem (by omega)⟩
/-- [f, g][i](e, ..): whatever def it is, the argument i tells what it gives -/
theorem XV.fnlI {ι : Type} {k : Nat} {es as : List Expr} {a : Expr} {ix : Expr} {l : List (Str × Addr)} {p1 p2 : Pos} {args : ι → List PyData} {fs : List (ι → Res β)} {mi : Res Int} {mm : Res ι} (hn : NmL X es l) (hlen : l.length = fs.length) (hz : l.length ≤ 1000)
    (hG : ∀ (j : Nat) (z : Str × Addr) (f : ι → Res β), l[j]? = some z → fs[j]? = some f → ∃ fd ps, FnC X.K X.mg z.1 z.2 fd ps ∧ FnV X.prog X.w X.K X.mg X.base k z.2 fd ps (fun ds r => ∃ i, ds = args i ∧ r = (f i).map toD))
    (gr : GRoom k X.A) (tk : Takes X W) (hi : XV X W ρ ix mi) (ha : XA X W ρ (a :: as) (mm.map args)) (he : starEach (a :: as) X.env = (false, eval a X.env) :: starEach as X.env := by rfl) (hpl : (backTo pos (starEach as X.env)).any (·.1) = false := by rfl) (hs : PlainIx ix := by exact fun _ _ => rfl) :
    XV X W ρ (.Call (.Subscript (.List es p1) ix p2) (a :: as) [] pos) (mi >>= fun i => pickF fs i >>= fun f => mm >>= f) := by
  have hf : XV X W ρ (.Subscript (.List es p1) ix p2) (mi >>= fun i => getL (l.map fun z => FnRef.mk z.2) i) := XV.idx (XF.w (XF.lst hn.xl fun xs e => by cases e; rw [List.length_map]; exact hz)) hi hs
  refine ⟨fun pins s σ H Q I ⟨F0, H0, F, R, p⟩ => ?_⟩
  rw [show eval (.Call (.Subscript (.List es p1) ix p2) (a :: as) [] pos) X.env = (do callWith pos (← eval (.Subscript (.List es p1) ix p2) X.env) [] (backTo pos (starEach (a :: as) X.env)) (backToKw pos (keywordEach [] X.env))) from rfl]
  -- what is wanted behind the def's value
  refine wpAny_bind (thn (hf.run pins s σ H (fun v H1 => ∃ (j : Nat) (z : Str × Addr) (f : ι → Res β) (F1 : Hp), l[j]? = some z ∧ fs[j]? = some f ∧ v = .ref z.2 ∧ Grow F H F1 H1 ∧ PostV X.K W F1 H1 ((mm >>= f).map toD) Q) I ⟨F0, H0, F, R, ?_⟩) fun u s1 ⟨v, H1, I1, rv, j, z, f, F1, e1, e2, ev, g, p2⟩ => ?_)
  · cases mi with
    | exc c i => exact p
    | stuck => exact p
    | ok i =>
      have p1 : PostV X.K W F H ((pickF fs i >>= fun f => mm >>= f).map toD) Q := p
      show PostV X.K W F H ((getL (l.map fun z => FnRef.mk z.2) i).map toD) _
      cases eg : getL (l.map fun z => FnRef.mk z.2) i with
      | exc c i => exact absurd eg getL_noF
      | stuck =>
        cases ep : pickF fs i with
        | stuck => rw [ep] at p1; exact p1
        | exc c i => exact absurd ep getL_noF
        | ok f =>
          obtain ⟨z, _, q, _⟩ := getL_zip (m := l.map fun z => FnRef.mk z.2) (by rw [List.length_map]; exact hlen.symm) ep
          rw [eg] at q; cases q
      | ok r =>
        intro v F1 H1 g rr
        obtain ⟨f, j, q1, q2, q3⟩ := getL_zip (l := l.map fun z => FnRef.mk z.2) (m := fs) (by rw [List.length_map]; exact hlen) eg
        rw [List.getElem?_map] at q2
        cases ez : l[j]? with
        | none => rw [ez] at q2; cases q2
        | some z =>
          rw [ez] at q2
          refine ⟨j, z, f, F1, ez, q3, ?_, g, ?_⟩
          · rw [rp_fn rr]
            cases q2; rfl
          · refine PostV.grow g ?_
            have : (pickF fs i >>= fun f => mm >>= f) = (mm >>= f) := by
              unfold pickF
              rw [q1]; rfl
            rw [this] at p1; exact p1
  · subst ev
    obtain rfl : u = Value.ref z.2 := rv
    obtain ⟨fd, ps, C, G⟩ := hG j z f e1 e2
    refine PySem.W.callWith_K (h₀ := X.base) I1.ok.mod.kin C.kp (thn (ha.run pos pins s1 σ H1 (fun vs H2 => spR X.K (fun ds r => ∃ i, ds = args i ∧ r = (f i).map toD) vs H2 Q fun c d H => ∀ σ, W c d σ H) I1 ⟨F0, H0, F1, R.grow g, ?_⟩) fun us s2 ⟨vs, H2, I2, r2, q⟩ => ⟨I2.kIn, run_fnG G gr C.bn (passes_call tk fun c d σ H h => h σ) I2 r2 q⟩) he hpl
    cases mm with
    | exc c i => exact p2
    | stuck => exact p2
    | ok i =>
      intro vs F2 H2 g2 r2
      have p3 : PostV X.K W F2 H2 ((f i).map toD) Q := PostV.grow g2 p2
      refine ⟨F2, args i, (f i).map toD, ⟨i, rfl, rfl⟩, g2.fh, r2, ?_⟩
      cases er : (f i).map toD with
      | ok d => rw [er] at p3; exact p3
      | exc c i => rw [er] at p3; exact fun dx F' H' σ' g x n σ => p3 dx F' H' σ g x n
      | stuck => rw [er] at p3; exact p3
end

section
variable {X : Cx} {W : WX} {ρ : Rs} {pos : Pos} {α1 : Type} [Enc α1] {β : Type} [Enc β]
/-- what is known of each def of the list -/
inductive GL1 (X : Cx) (k : Nat) : List (Str × Addr) → List (α1 → Res β) → Prop
  | nil : GL1 X k [] []
  | cons {x : Str} {fa : Addr} {fd : FuncData} {ps : List Str} {f : α1 → Res β} {l : List (Str × Addr)} {fs : List (α1 → Res β)} (C : FnC X.K X.mg x fa fd ps) (G : FnV X.prog X.w X.K X.mg X.base k fa fd ps (Rn1 f)) (r : GL1 X k l fs) : GL1 X k ((x, fa) :: l) (f :: fs)
theorem XV.fnl1 {k : Nat} {e1 ix : Expr} {es : List Expr} {l : List (Str × Addr)} {p1 p2 : Pos} {fs : List (α1 → Res β)} {mi : Res Int} {m1 : Res α1} (hn : NmL X es l) (hG : GL1 X k l fs) (gr : GRoom k X.A) (tk : Takes X W) (hi : XV X W ρ ix mi) (h1 : XV X W ρ e1 m1) (hz : l.length ≤ 1000 := by exact Nat.le_of_ble_eq_true rfl)
    (s1 : starEach [e1] X.env = (false, eval e1 X.env) :: starEach [] X.env := by rfl) (hpl : (backTo pos (starEach [] X.env)).any (·.1) = false := by rfl) (hs : PlainIx ix := by exact fun _ _ => rfl) :
    XV X W ρ (.Call (.Subscript (.List es p1) ix p2) [e1] [] pos) (do
    let i ← mi
    let g ← pickF fs i
    let x1 ← m1
    g x1) := by
  have hl : ∀ {l : List (Str × Addr)} {fs : List (α1 → Res β)}, GL1 X k l fs → l.length = fs.length := fun h => by
    induction h with
    | nil => rfl
    | cons _ _ _ ih => exact congrArg Nat.succ ih
  have at_ : ∀ {l : List (Str × Addr)} {fs : List (α1 → Res β)}, GL1 X k l fs → ∀ (j : Nat) (z : Str × Addr) (f : α1 → Res β), l[j]? = some z → (fs.map fun f (i : α1) => f i)[j]? = some (fun i => f i) → ∃ fd ps, FnC X.K X.mg z.1 z.2 fd ps ∧ FnV X.prog X.w X.K X.mg X.base k z.2 fd ps (fun ds r => ∃ i : α1, ds = [toD i] ∧ r = (f i).map toD) := fun h => by
    induction h with
    | nil => intro j z f h; simp at h
    | @cons x fa fd ps f0 l fs C G r ih =>
      intro j z f h1 h2
      cases j with
      | zero =>
        simp only [List.getElem?_cons_zero, Option.some.injEq] at h1
        subst h1
        simp only [List.map_cons, List.getElem?_cons_zero, Option.some.injEq] at h2
        have e : f0 = f := by
          funext x1
          exact congrFun h2 x1
        subst e
        exact ⟨fd, ps, C, ⟨fun vs H Q E ⟨F, ds, r, ⟨i, e1, e2⟩, q⟩ => G.len vs H Q E ⟨F, ds, r, ⟨i, e1, e2⟩, q⟩, fun A outer s H args us vs Q E hr e0 hb rv ⟨F, ds, r, ⟨i, e1, e2⟩, q⟩ => G.run A outer s H args us vs Q E hr e0 hb rv ⟨F, ds, r, ⟨i, e1, e2⟩, q⟩⟩⟩
      | succ j =>
        simp only [List.getElem?_cons_succ] at h1
        simp only [List.map_cons, List.getElem?_cons_succ] at h2
        exact ih j z f h1 h2
  refine (XV.fnlI (args := fun i : α1 => [toD i]) (fs := fs.map fun f (i : α1) => f i) (mm := (do
    let x1 ← m1
    Res.ok x1)) hn (by rw [List.length_map]; exact hl hG) hz (fun j z f e1 e2 => ?_) gr tk hi (XA.eq (XA.cons h1 XA.nil s1) ?_) s1 hpl hs).eq ?_
  · rw [List.getElem?_map] at e2
    cases e3 : fs[j]? with
    | none => rw [e3] at e2; cases e2
    | some g =>
      have e4 : (fun i : α1 => g i) = f := by rw [e3] at e2; exact Option.some.inj e2
      obtain ⟨fd, ps, C, G⟩ := at_ hG j z g e1 (by rw [List.getElem?_map, e3]; rfl)
      exact ⟨fd, ps, C, by rw [← e4]; exact G⟩
  · cases m1 with
    | exc c i => rfl
    | stuck => rfl
    | ok y1 =>
      rfl
  · cases mi with
    | exc c i => rfl
    | stuck => rfl
    | ok i =>
      show (pickF fs i >>= _) = (pickF (fs.map _) i >>= _)
      unfold pickF getL
      rw [List.length_map]
      cases Vs.idx fs.length i with
      | none => rfl
      | some j =>
        simp only [Option.bind_some, List.getElem?_map]
        cases fs[j]? with
        | none => rfl
        | some g =>
          show ((do
            let x1 ← m1
            g x1) : Res β) = ((do
            let x1 ← m1
            Res.ok x1) >>= fun i => g i)
          cases m1 with
          | exc c i => rfl
          | stuck => rfl
          | ok y1 =>
            rfl
end
theorem FnV.dyn1 {P : Program} {w : World} {K : PySem.W.Frag} {mg : Str → Option Value} {base : Heap} {k : Nat} {fa : Addr} {fd : FuncData} {ps : List Str} {α1 : Type} [Enc α1] {β : Type} [Enc β] {f : α1 → Res β} (G : FnV P w K mg base k fa fd ps (Rn1 f)) : FnV P w K mg base k fa fd ps (Rn1 fun x1 => f x1 >>= fun z => .ok (dynR z)) :=
  ⟨fun vs H Q E ⟨F, ds, r, ⟨x1, e1, e2⟩, q⟩ => G.len vs H Q E ⟨F, ds, r, ⟨x1, e1, (e2.trans (dyn_map _))⟩, q⟩, fun A outer s H args us vs Q E hr e0 hb rv ⟨F, ds, r, ⟨x1, e1, e2⟩, q⟩ => G.run A outer s H args us vs Q E hr e0 hb rv ⟨F, ds, r, ⟨x1, e1, (e2.trans (dyn_map _))⟩, q⟩⟩
section
variable {X : Cx} {W : WX} {ρ : Rs} {pos : Pos} {α1 : Type} [Enc α1] {α2 : Type} [Enc α2] {β : Type} [Enc β]
/-- what is known of each def of the list -/
inductive GL2 (X : Cx) (k : Nat) : List (Str × Addr) → List (α1 → α2 → Res β) → Prop
  | nil : GL2 X k [] []
  | cons {x : Str} {fa : Addr} {fd : FuncData} {ps : List Str} {f : α1 → α2 → Res β} {l : List (Str × Addr)} {fs : List (α1 → α2 → Res β)} (C : FnC X.K X.mg x fa fd ps) (G : FnV X.prog X.w X.K X.mg X.base k fa fd ps (Rn2 f)) (r : GL2 X k l fs) : GL2 X k ((x, fa) :: l) (f :: fs)
theorem XV.fnl2 {k : Nat} {e1 e2 ix : Expr} {es : List Expr} {l : List (Str × Addr)} {p1 p2 : Pos} {fs : List (α1 → α2 → Res β)} {mi : Res Int} {m1 : Res α1} {m2 : Res α2} (hn : NmL X es l) (hG : GL2 X k l fs) (gr : GRoom k X.A) (tk : Takes X W) (hi : XV X W ρ ix mi) (h1 : XV X W ρ e1 m1) (h2 : XV X W ρ e2 m2) (hz : l.length ≤ 1000 := by exact Nat.le_of_ble_eq_true rfl)
    (s1 : starEach [e1, e2] X.env = (false, eval e1 X.env) :: starEach [e2] X.env := by rfl) (s2 : starEach [e2] X.env = (false, eval e2 X.env) :: starEach [] X.env := by rfl) (hpl : (backTo pos (starEach [e2] X.env)).any (·.1) = false := by rfl) (hs : PlainIx ix := by exact fun _ _ => rfl) :
    XV X W ρ (.Call (.Subscript (.List es p1) ix p2) [e1, e2] [] pos) (do
    let i ← mi
    let g ← pickF fs i
    let x1 ← m1
    let x2 ← m2
    g x1 x2) := by
  have hl : ∀ {l : List (Str × Addr)} {fs : List (α1 → α2 → Res β)}, GL2 X k l fs → l.length = fs.length := fun h => by
    induction h with
    | nil => rfl
    | cons _ _ _ ih => exact congrArg Nat.succ ih
  have at_ : ∀ {l : List (Str × Addr)} {fs : List (α1 → α2 → Res β)}, GL2 X k l fs → ∀ (j : Nat) (z : Str × Addr) (f : α1 → α2 → Res β), l[j]? = some z → (fs.map fun f (i : α1 × α2) => f (i.1) (i.2))[j]? = some (fun i => f (i.1) (i.2)) → ∃ fd ps, FnC X.K X.mg z.1 z.2 fd ps ∧ FnV X.prog X.w X.K X.mg X.base k z.2 fd ps (fun ds r => ∃ i : α1 × α2, ds = [toD (i.1), toD (i.2)] ∧ r = (f (i.1) (i.2)).map toD) := fun h => by
    induction h with
    | nil => intro j z f h; simp at h
    | @cons x fa fd ps f0 l fs C G r ih =>
      intro j z f h1 h2
      cases j with
      | zero =>
        simp only [List.getElem?_cons_zero, Option.some.injEq] at h1
        subst h1
        simp only [List.map_cons, List.getElem?_cons_zero, Option.some.injEq] at h2
        have e : f0 = f := by
          funext x1 x2
          exact congrFun h2 (x1, x2)
        subst e
        exact ⟨fd, ps, C, ⟨fun vs H Q E ⟨F, ds, r, ⟨i, e1, e2⟩, q⟩ => G.len vs H Q E ⟨F, ds, r, ⟨i.1, i.2, e1, e2⟩, q⟩, fun A outer s H args us vs Q E hr e0 hb rv ⟨F, ds, r, ⟨i, e1, e2⟩, q⟩ => G.run A outer s H args us vs Q E hr e0 hb rv ⟨F, ds, r, ⟨i.1, i.2, e1, e2⟩, q⟩⟩⟩
      | succ j =>
        simp only [List.getElem?_cons_succ] at h1
        simp only [List.map_cons, List.getElem?_cons_succ] at h2
        exact ih j z f h1 h2
  refine (XV.fnlI (args := fun i : α1 × α2 => [toD (i.1), toD (i.2)]) (fs := fs.map fun f (i : α1 × α2) => f (i.1) (i.2)) (mm := (do
    let x1 ← m1
    let x2 ← m2
    Res.ok (x1, x2))) hn (by rw [List.length_map]; exact hl hG) hz (fun j z f e1 e2 => ?_) gr tk hi (XA.eq (XA.cons h1 (XA.cons h2 XA.nil s2) s1) ?_) s1 hpl hs).eq ?_
  · rw [List.getElem?_map] at e2
    cases e3 : fs[j]? with
    | none => rw [e3] at e2; cases e2
    | some g =>
      have e4 : (fun i : α1 × α2 => g (i.1) (i.2)) = f := by rw [e3] at e2; exact Option.some.inj e2
      obtain ⟨fd, ps, C, G⟩ := at_ hG j z g e1 (by rw [List.getElem?_map, e3]; rfl)
      exact ⟨fd, ps, C, by rw [← e4]; exact G⟩
  · cases m1 with
    | exc c i => rfl
    | stuck => rfl
    | ok y1 =>
      cases m2 with
      | exc c i => rfl
      | stuck => rfl
      | ok y2 =>
        rfl
  · cases mi with
    | exc c i => rfl
    | stuck => rfl
    | ok i =>
      show (pickF fs i >>= _) = (pickF (fs.map _) i >>= _)
      unfold pickF getL
      rw [List.length_map]
      cases Vs.idx fs.length i with
      | none => rfl
      | some j =>
        simp only [Option.bind_some, List.getElem?_map]
        cases fs[j]? with
        | none => rfl
        | some g =>
          show ((do
            let x1 ← m1
            let x2 ← m2
            g x1 x2) : Res β) = ((do
            let x1 ← m1
            let x2 ← m2
            Res.ok (x1, x2)) >>= fun i => g (i.1) (i.2))
          cases m1 with
          | exc c i => rfl
          | stuck => rfl
          | ok y1 =>
            cases m2 with
            | exc c i => rfl
            | stuck => rfl
            | ok y2 =>
              rfl
end
theorem FnV.dyn2 {P : Program} {w : World} {K : PySem.W.Frag} {mg : Str → Option Value} {base : Heap} {k : Nat} {fa : Addr} {fd : FuncData} {ps : List Str} {α1 : Type} [Enc α1] {α2 : Type} [Enc α2] {β : Type} [Enc β] {f : α1 → α2 → Res β} (G : FnV P w K mg base k fa fd ps (Rn2 f)) : FnV P w K mg base k fa fd ps (Rn2 fun x1 x2 => f x1 x2 >>= fun z => .ok (dynR z)) :=
  ⟨fun vs H Q E ⟨F, ds, r, ⟨x1, x2, e1, e2⟩, q⟩ => G.len vs H Q E ⟨F, ds, r, ⟨x1, x2, e1, (e2.trans (dyn_map _))⟩, q⟩, fun A outer s H args us vs Q E hr e0 hb rv ⟨F, ds, r, ⟨x1, x2, e1, e2⟩, q⟩ => G.run A outer s H args us vs Q E hr e0 hb rv ⟨F, ds, r, ⟨x1, x2, e1, (e2.trans (dyn_map _))⟩, q⟩⟩
section
variable {X : Cx} {W : WX} {ρ : Rs} {pos : Pos} {α1 : Type} [Enc α1] {α2 : Type} [Enc α2] {α3 : Type} [Enc α3] {β : Type} [Enc β]
/-- what is known of each def of the list -/
inductive GL3 (X : Cx) (k : Nat) : List (Str × Addr) → List (α1 → α2 → α3 → Res β) → Prop
  | nil : GL3 X k [] []
  | cons {x : Str} {fa : Addr} {fd : FuncData} {ps : List Str} {f : α1 → α2 → α3 → Res β} {l : List (Str × Addr)} {fs : List (α1 → α2 → α3 → Res β)} (C : FnC X.K X.mg x fa fd ps) (G : FnV X.prog X.w X.K X.mg X.base k fa fd ps (Rn3 f)) (r : GL3 X k l fs) : GL3 X k ((x, fa) :: l) (f :: fs)
theorem XV.fnl3 {k : Nat} {e1 e2 e3 ix : Expr} {es : List Expr} {l : List (Str × Addr)} {p1 p2 : Pos} {fs : List (α1 → α2 → α3 → Res β)} {mi : Res Int} {m1 : Res α1} {m2 : Res α2} {m3 : Res α3} (hn : NmL X es l) (hG : GL3 X k l fs) (gr : GRoom k X.A) (tk : Takes X W) (hi : XV X W ρ ix mi) (h1 : XV X W ρ e1 m1) (h2 : XV X W ρ e2 m2) (h3 : XV X W ρ e3 m3) (hz : l.length ≤ 1000 := by exact Nat.le_of_ble_eq_true rfl)
    (s1 : starEach [e1, e2, e3] X.env = (false, eval e1 X.env) :: starEach [e2, e3] X.env := by rfl) (s2 : starEach [e2, e3] X.env = (false, eval e2 X.env) :: starEach [e3] X.env := by rfl) (s3 : starEach [e3] X.env = (false, eval e3 X.env) :: starEach [] X.env := by rfl) (hpl : (backTo pos (starEach [e2, e3] X.env)).any (·.1) = false := by rfl) (hs : PlainIx ix := by exact fun _ _ => rfl) :
    XV X W ρ (.Call (.Subscript (.List es p1) ix p2) [e1, e2, e3] [] pos) (do
    let i ← mi
    let g ← pickF fs i
    let x1 ← m1
    let x2 ← m2
    let x3 ← m3
    g x1 x2 x3) := by
  have hl : ∀ {l : List (Str × Addr)} {fs : List (α1 → α2 → α3 → Res β)}, GL3 X k l fs → l.length = fs.length := fun h => by
    induction h with
    | nil => rfl
    | cons _ _ _ ih => exact congrArg Nat.succ ih
  have at_ : ∀ {l : List (Str × Addr)} {fs : List (α1 → α2 → α3 → Res β)}, GL3 X k l fs → ∀ (j : Nat) (z : Str × Addr) (f : α1 → α2 → α3 → Res β), l[j]? = some z → (fs.map fun f (i : α1 × α2 × α3) => f (i.1) (i.2.1) (i.2.2))[j]? = some (fun i => f (i.1) (i.2.1) (i.2.2)) → ∃ fd ps, FnC X.K X.mg z.1 z.2 fd ps ∧ FnV X.prog X.w X.K X.mg X.base k z.2 fd ps (fun ds r => ∃ i : α1 × α2 × α3, ds = [toD (i.1), toD (i.2.1), toD (i.2.2)] ∧ r = (f (i.1) (i.2.1) (i.2.2)).map toD) := fun h => by
    induction h with
    | nil => intro j z f h; simp at h
    | @cons x fa fd ps f0 l fs C G r ih =>
      intro j z f h1 h2
      cases j with
      | zero =>
        simp only [List.getElem?_cons_zero, Option.some.injEq] at h1
        subst h1
        simp only [List.map_cons, List.getElem?_cons_zero, Option.some.injEq] at h2
        have e : f0 = f := by
          funext x1 x2 x3
          exact congrFun h2 (x1, x2, x3)
        subst e
        exact ⟨fd, ps, C, ⟨fun vs H Q E ⟨F, ds, r, ⟨i, e1, e2⟩, q⟩ => G.len vs H Q E ⟨F, ds, r, ⟨i.1, i.2.1, i.2.2, e1, e2⟩, q⟩, fun A outer s H args us vs Q E hr e0 hb rv ⟨F, ds, r, ⟨i, e1, e2⟩, q⟩ => G.run A outer s H args us vs Q E hr e0 hb rv ⟨F, ds, r, ⟨i.1, i.2.1, i.2.2, e1, e2⟩, q⟩⟩⟩
      | succ j =>
        simp only [List.getElem?_cons_succ] at h1
        simp only [List.map_cons, List.getElem?_cons_succ] at h2
        exact ih j z f h1 h2
  refine (XV.fnlI (args := fun i : α1 × α2 × α3 => [toD (i.1), toD (i.2.1), toD (i.2.2)]) (fs := fs.map fun f (i : α1 × α2 × α3) => f (i.1) (i.2.1) (i.2.2)) (mm := (do
    let x1 ← m1
    let x2 ← m2
    let x3 ← m3
    Res.ok (x1, x2, x3))) hn (by rw [List.length_map]; exact hl hG) hz (fun j z f e1 e2 => ?_) gr tk hi (XA.eq (XA.cons h1 (XA.cons h2 (XA.cons h3 XA.nil s3) s2) s1) ?_) s1 hpl hs).eq ?_
  · rw [List.getElem?_map] at e2
    cases e3 : fs[j]? with
    | none => rw [e3] at e2; cases e2
    | some g =>
      have e4 : (fun i : α1 × α2 × α3 => g (i.1) (i.2.1) (i.2.2)) = f := by rw [e3] at e2; exact Option.some.inj e2
      obtain ⟨fd, ps, C, G⟩ := at_ hG j z g e1 (by rw [List.getElem?_map, e3]; rfl)
      exact ⟨fd, ps, C, by rw [← e4]; exact G⟩
  · cases m1 with
    | exc c i => rfl
    | stuck => rfl
    | ok y1 =>
      cases m2 with
      | exc c i => rfl
      | stuck => rfl
      | ok y2 =>
        cases m3 with
        | exc c i => rfl
        | stuck => rfl
        | ok y3 =>
          rfl
  · cases mi with
    | exc c i => rfl
    | stuck => rfl
    | ok i =>
      show (pickF fs i >>= _) = (pickF (fs.map _) i >>= _)
      unfold pickF getL
      rw [List.length_map]
      cases Vs.idx fs.length i with
      | none => rfl
      | some j =>
        simp only [Option.bind_some, List.getElem?_map]
        cases fs[j]? with
        | none => rfl
        | some g =>
          show ((do
            let x1 ← m1
            let x2 ← m2
            let x3 ← m3
            g x1 x2 x3) : Res β) = ((do
            let x1 ← m1
            let x2 ← m2
            let x3 ← m3
            Res.ok (x1, x2, x3)) >>= fun i => g (i.1) (i.2.1) (i.2.2))
          cases m1 with
          | exc c i => rfl
          | stuck => rfl
          | ok y1 =>
            cases m2 with
            | exc c i => rfl
            | stuck => rfl
            | ok y2 =>
              cases m3 with
              | exc c i => rfl
              | stuck => rfl
              | ok y3 =>
                rfl
end
theorem FnV.dyn3 {P : Program} {w : World} {K : PySem.W.Frag} {mg : Str → Option Value} {base : Heap} {k : Nat} {fa : Addr} {fd : FuncData} {ps : List Str} {α1 : Type} [Enc α1] {α2 : Type} [Enc α2] {α3 : Type} [Enc α3] {β : Type} [Enc β] {f : α1 → α2 → α3 → Res β} (G : FnV P w K mg base k fa fd ps (Rn3 f)) : FnV P w K mg base k fa fd ps (Rn3 fun x1 x2 x3 => f x1 x2 x3 >>= fun z => .ok (dynR z)) :=
  ⟨fun vs H Q E ⟨F, ds, r, ⟨x1, x2, x3, e1, e2⟩, q⟩ => G.len vs H Q E ⟨F, ds, r, ⟨x1, x2, x3, e1, (e2.trans (dyn_map _))⟩, q⟩, fun A outer s H args us vs Q E hr e0 hb rv ⟨F, ds, r, ⟨x1, x2, x3, e1, e2⟩, q⟩ => G.run A outer s H args us vs Q E hr e0 hb rv ⟨F, ds, r, ⟨x1, x2, x3, e1, (e2.trans (dyn_map _))⟩, q⟩⟩
section
variable {X : Cx} {W : WX} {ρ : Rs} {pos : Pos} {α1 : Type} [Enc α1] {α2 : Type} [Enc α2] {α3 : Type} [Enc α3] {α4 : Type} [Enc α4] {β : Type} [Enc β]
/-- what is known of each def of the list -/
inductive GL4 (X : Cx) (k : Nat) : List (Str × Addr) → List (α1 → α2 → α3 → α4 → Res β) → Prop
  | nil : GL4 X k [] []
  | cons {x : Str} {fa : Addr} {fd : FuncData} {ps : List Str} {f : α1 → α2 → α3 → α4 → Res β} {l : List (Str × Addr)} {fs : List (α1 → α2 → α3 → α4 → Res β)} (C : FnC X.K X.mg x fa fd ps) (G : FnV X.prog X.w X.K X.mg X.base k fa fd ps (Rn4 f)) (r : GL4 X k l fs) : GL4 X k ((x, fa) :: l) (f :: fs)
theorem XV.fnl4 {k : Nat} {e1 e2 e3 e4 ix : Expr} {es : List Expr} {l : List (Str × Addr)} {p1 p2 : Pos} {fs : List (α1 → α2 → α3 → α4 → Res β)} {mi : Res Int} {m1 : Res α1} {m2 : Res α2} {m3 : Res α3} {m4 : Res α4} (hn : NmL X es l) (hG : GL4 X k l fs) (gr : GRoom k X.A) (tk : Takes X W) (hi : XV X W ρ ix mi) (h1 : XV X W ρ e1 m1) (h2 : XV X W ρ e2 m2) (h3 : XV X W ρ e3 m3) (h4 : XV X W ρ e4 m4) (hz : l.length ≤ 1000 := by exact Nat.le_of_ble_eq_true rfl)
    (s1 : starEach [e1, e2, e3, e4] X.env = (false, eval e1 X.env) :: starEach [e2, e3, e4] X.env := by rfl) (s2 : starEach [e2, e3, e4] X.env = (false, eval e2 X.env) :: starEach [e3, e4] X.env := by rfl) (s3 : starEach [e3, e4] X.env = (false, eval e3 X.env) :: starEach [e4] X.env := by rfl) (s4 : starEach [e4] X.env = (false, eval e4 X.env) :: starEach [] X.env := by rfl) (hpl : (backTo pos (starEach [e2, e3, e4] X.env)).any (·.1) = false := by rfl) (hs : PlainIx ix := by exact fun _ _ => rfl) :
    XV X W ρ (.Call (.Subscript (.List es p1) ix p2) [e1, e2, e3, e4] [] pos) (do
    let i ← mi
    let g ← pickF fs i
    let x1 ← m1
    let x2 ← m2
    let x3 ← m3
    let x4 ← m4
    g x1 x2 x3 x4) := by
  have hl : ∀ {l : List (Str × Addr)} {fs : List (α1 → α2 → α3 → α4 → Res β)}, GL4 X k l fs → l.length = fs.length := fun h => by
    induction h with
    | nil => rfl
    | cons _ _ _ ih => exact congrArg Nat.succ ih
  have at_ : ∀ {l : List (Str × Addr)} {fs : List (α1 → α2 → α3 → α4 → Res β)}, GL4 X k l fs → ∀ (j : Nat) (z : Str × Addr) (f : α1 → α2 → α3 → α4 → Res β), l[j]? = some z → (fs.map fun f (i : α1 × α2 × α3 × α4) => f (i.1) (i.2.1) (i.2.2.1) (i.2.2.2))[j]? = some (fun i => f (i.1) (i.2.1) (i.2.2.1) (i.2.2.2)) → ∃ fd ps, FnC X.K X.mg z.1 z.2 fd ps ∧ FnV X.prog X.w X.K X.mg X.base k z.2 fd ps (fun ds r => ∃ i : α1 × α2 × α3 × α4, ds = [toD (i.1), toD (i.2.1), toD (i.2.2.1), toD (i.2.2.2)] ∧ r = (f (i.1) (i.2.1) (i.2.2.1) (i.2.2.2)).map toD) := fun h => by
    induction h with
    | nil => intro j z f h; simp at h
    | @cons x fa fd ps f0 l fs C G r ih =>
      intro j z f h1 h2
      cases j with
      | zero =>
        simp only [List.getElem?_cons_zero, Option.some.injEq] at h1
        subst h1
        simp only [List.map_cons, List.getElem?_cons_zero, Option.some.injEq] at h2
        have e : f0 = f := by
          funext x1 x2 x3 x4
          exact congrFun h2 (x1, x2, x3, x4)
        subst e
        exact ⟨fd, ps, C, ⟨fun vs H Q E ⟨F, ds, r, ⟨i, e1, e2⟩, q⟩ => G.len vs H Q E ⟨F, ds, r, ⟨i.1, i.2.1, i.2.2.1, i.2.2.2, e1, e2⟩, q⟩, fun A outer s H args us vs Q E hr e0 hb rv ⟨F, ds, r, ⟨i, e1, e2⟩, q⟩ => G.run A outer s H args us vs Q E hr e0 hb rv ⟨F, ds, r, ⟨i.1, i.2.1, i.2.2.1, i.2.2.2, e1, e2⟩, q⟩⟩⟩
      | succ j =>
        simp only [List.getElem?_cons_succ] at h1
        simp only [List.map_cons, List.getElem?_cons_succ] at h2
        exact ih j z f h1 h2
  refine (XV.fnlI (args := fun i : α1 × α2 × α3 × α4 => [toD (i.1), toD (i.2.1), toD (i.2.2.1), toD (i.2.2.2)]) (fs := fs.map fun f (i : α1 × α2 × α3 × α4) => f (i.1) (i.2.1) (i.2.2.1) (i.2.2.2)) (mm := (do
    let x1 ← m1
    let x2 ← m2
    let x3 ← m3
    let x4 ← m4
    Res.ok (x1, x2, x3, x4))) hn (by rw [List.length_map]; exact hl hG) hz (fun j z f e1 e2 => ?_) gr tk hi (XA.eq (XA.cons h1 (XA.cons h2 (XA.cons h3 (XA.cons h4 XA.nil s4) s3) s2) s1) ?_) s1 hpl hs).eq ?_
  · rw [List.getElem?_map] at e2
    cases e3 : fs[j]? with
    | none => rw [e3] at e2; cases e2
    | some g =>
      have e4 : (fun i : α1 × α2 × α3 × α4 => g (i.1) (i.2.1) (i.2.2.1) (i.2.2.2)) = f := by rw [e3] at e2; exact Option.some.inj e2
      obtain ⟨fd, ps, C, G⟩ := at_ hG j z g e1 (by rw [List.getElem?_map, e3]; rfl)
      exact ⟨fd, ps, C, by rw [← e4]; exact G⟩
  · cases m1 with
    | exc c i => rfl
    | stuck => rfl
    | ok y1 =>
      cases m2 with
      | exc c i => rfl
      | stuck => rfl
      | ok y2 =>
        cases m3 with
        | exc c i => rfl
        | stuck => rfl
        | ok y3 =>
          cases m4 with
          | exc c i => rfl
          | stuck => rfl
          | ok y4 =>
            rfl
  · cases mi with
    | exc c i => rfl
    | stuck => rfl
    | ok i =>
      show (pickF fs i >>= _) = (pickF (fs.map _) i >>= _)
      unfold pickF getL
      rw [List.length_map]
      cases Vs.idx fs.length i with
      | none => rfl
      | some j =>
        simp only [Option.bind_some, List.getElem?_map]
        cases fs[j]? with
        | none => rfl
        | some g =>
          show ((do
            let x1 ← m1
            let x2 ← m2
            let x3 ← m3
            let x4 ← m4
            g x1 x2 x3 x4) : Res β) = ((do
            let x1 ← m1
            let x2 ← m2
            let x3 ← m3
            let x4 ← m4
            Res.ok (x1, x2, x3, x4)) >>= fun i => g (i.1) (i.2.1) (i.2.2.1) (i.2.2.2))
          cases m1 with
          | exc c i => rfl
          | stuck => rfl
          | ok y1 =>
            cases m2 with
            | exc c i => rfl
            | stuck => rfl
            | ok y2 =>
              cases m3 with
              | exc c i => rfl
              | stuck => rfl
              | ok y3 =>
                cases m4 with
                | exc c i => rfl
                | stuck => rfl
                | ok y4 =>
                  rfl
end
theorem FnV.dyn4 {P : Program} {w : World} {K : PySem.W.Frag} {mg : Str → Option Value} {base : Heap} {k : Nat} {fa : Addr} {fd : FuncData} {ps : List Str} {α1 : Type} [Enc α1] {α2 : Type} [Enc α2] {α3 : Type} [Enc α3] {α4 : Type} [Enc α4] {β : Type} [Enc β] {f : α1 → α2 → α3 → α4 → Res β} (G : FnV P w K mg base k fa fd ps (Rn4 f)) : FnV P w K mg base k fa fd ps (Rn4 fun x1 x2 x3 x4 => f x1 x2 x3 x4 >>= fun z => .ok (dynR z)) :=
  ⟨fun vs H Q E ⟨F, ds, r, ⟨x1, x2, x3, x4, e1, e2⟩, q⟩ => G.len vs H Q E ⟨F, ds, r, ⟨x1, x2, x3, x4, e1, (e2.trans (dyn_map _))⟩, q⟩, fun A outer s H args us vs Q E hr e0 hb rv ⟨F, ds, r, ⟨x1, x2, x3, x4, e1, e2⟩, q⟩ => G.run A outer s H args us vs Q E hr e0 hb rv ⟨F, ds, r, ⟨x1, x2, x3, x4, e1, (e2.trans (dyn_map _))⟩, q⟩⟩
end Vs
end
section
set_option Elab.async false
set_option linter.all false
set_option maxRecDepth 100000
/-! Vs16: the head's facts, with the statics' table among the roots (an error's super().__init__ asks it). -/
namespace Vs
open Enc (toD)
open PySem PySem.Spec PyProof.Rows L2 He
def asY (g : Addr → Option Obj) (n : Nat) : List Addr := cStatics :: asD g n
abbrev AlY : Type := AlT × Bool
def obsY (n : Nat) (fa : List Fa) (fn : List DefD) (ex : PySem.W.Frag → Bool) (g : Addr → Option Obj) : AlY := (obsT fa fn [] (frT g (asY g n)), ex (frT g (asY g n)))
def valY (fn : List DefD) (w : World) : AlY := (valT fn [] w, true)
structure SaysY (fa : List Fa) (fn : List DefD) (ex : PySem.W.Frag → Bool) (w : World) (K : PySem.W.Frag) : Prop where
  t : SaysT fa fn [] w K
  more : ex K = true
def hookY (n : Nat) (fa : List Fa) (fn : List DefD) (ex : PySem.W.Frag → Bool) : PySem.W.Hook where
  α := AlY
  obs := fun s => obsY n fa fn ex s.heap.get?
  val := fun w => valY fn w
  says := fun w h => ∃ K : PySem.W.Frag, K.In h ∧ SaysY fa fn ex w K
  of := fun w s e => ⟨_, frT_in, ⟨congrArg (fun z : AlY => z.1) e, congrArg (fun z : AlY => z.2) e⟩⟩
  keeps := fun _ _ _ ⟨K, hK, c⟩ k => ⟨K, PySem.W.Frag.In.keeps hK k, c⟩
theorem obsY_eq {n : Nat} {fa : List Fa} {fn : List DefD} {ex : PySem.W.Frag → Bool} {g : Addr → Option Obj} {s : Shared} (h : ∀ a, g a = s.heap.get? a) : obsY n fa fn ex g = (hookY n fa fn ex).obs s := by
  have e : g = s.heap.get? := funext h
  subst e
  exact Eq.refl _
/-- the end of a law's walk -/
theorem walk_ofGw {l : PySem.W.OpenLaw} {n k : Nat} {q : Program} {loose : List Str} {XP : (Str → Option Value) → Heap → Prop} {YP : World → Heap → Prop} {d : DefRec} {CX : World → CXT} {x : Str}
    (hn : l.most = some n) (hn2 : n ≤ sizeLine) (hdf : d.params.defaults = []) (gr : GRoom k callerA)
    (F : ∀ (w : World) (mg : Str → Option Value) (fa : Addr) (h : Heap), YP w h → h.Ns mainGlobals mg → mg d.name = some (.ref fa) →
      ∃ (K : PySem.W.Frag) (fd : FuncData) (sp : Sp), K.In h ∧ (∀ (s : Shared) (u : Value), BindsTo s fd ⟨[u], []⟩ [(x, u)]) ∧ (∀ (H : Hp) (a : Addr) (ns : List Int), ns.length ≤ n → Only H → SqL K H a (ns.map V.int) → sp [.ref a] H (fun v _ => v = .bl true) fun _ _ _ => False) ∧
        ∀ base : Heap, K.In base → base.Ns mainGlobals mg → FnG l.prog w K mg base (CX w) k fa fd [x] sp)
    (hCX : ∀ (w : World) (H : Hp) (s : Shared) (e : Value) (s' : Shared), CX w [] H s (fun _ _ _ => False) e s' → False) : PySem.W.WalkO q loose XP YP l.row.toRowW d [] (fun f vs => PySem.call f vs) := by
  refine Att.attach_call hn hdf fun w s₀ t1 mg mb fa o pm cd doc a vs ns G Y _ _ _ hmg hobj hints hlen hg => ?_
  obtain ⟨K, fd, sp, KX, hb, hP, hF⟩ := F w mg fa _ Y G.T.g hmg
  exact law_callG KX G.T.g G.T.b G.T.builtins G.T.nolimit hg hobj hints (Nat.le_trans hlen hn2) gr hF hb (fun H hO hS => hP H a ns hlen hO hS) fun H e s' => hCX w H t1 e s'
theorem rpAll_ints {K : PySem.W.Frag} {F : Hp} : ∀ ns : List Int, RpAll K F (ns.map V.int) (ns.map toD)
  | [] => .nil
  | n :: ns => .cons (.int n) (rpAll_ints ns)
theorem law_sp {K : PySem.W.Frag} {H : Hp} {a : Addr} {ns : List Int} {f : Scr → Res Bool} (hO : Only H) (hS : SqL K H a (ns.map V.int)) (h : f ⟨ns⟩ = .ok true) :
    spR K (Rn1 f) [V.ref a] H (fun v _ => v = V.bl true) (fun _ _ _ => False) := by
  refine ⟨H, [toD (⟨ns⟩ : Scr)], _, ⟨⟨ns⟩, rfl, rfl⟩, fun _ _ e => e, .cons (.scr hS (rpAll_ints ns)) .nil, ?_⟩
  rw [h]
  intro v F' H' g r
  cases r with
  | bl => rfl
end Vs
end
section
set_option Elab.async false
set_option linter.all false
set_option maxRecDepth 100000
/-! Vs17: plain lemmas on the mirrors' operations. -/
namespace Vs
open Enc (toD)
open PySem PySem.Spec PyProof.Rows
section
variable {α β γ σ Ω : Type}
theorem foldR_inv {f : σ → α → Res σ} {I : σ → Prop} : ∀ {xs : List α} {s : σ}, (∀ x ∈ xs, ∀ s, I s → ∃ s', f s x = .ok s' ∧ I s') → I s → ∃ s', foldR f xs s = .ok s' ∧ I s'
  | [], s, _, h => ⟨s, rfl, h⟩
  | x :: xs, s, hf, h => by
    obtain ⟨s1, e, h1⟩ := hf x List.mem_cons_self s h
    obtain ⟨s2, e2, h2⟩ := foldR_inv (xs := xs) (fun y hy => hf y (List.mem_cons_of_mem _ hy)) h1
    exact ⟨s2, by show (f s x >>= fun s' => foldR f xs s') = _; rw [e]; exact e2, h2⟩
theorem foldR_invN {f : σ → α → Res σ} {I : Nat → σ → Prop} : ∀ {xs : List α} {s : σ} {n : Nat}, (∀ k x, xs[k]? = some x → ∀ s, I (n + k) s → ∃ s', f s x = .ok s' ∧ I (n + k + 1) s') → I n s → ∃ s', foldR f xs s = .ok s' ∧ I (n + xs.length) s'
  | [], s, n, _, h => ⟨s, rfl, h⟩
  | x :: xs, s, n, hf, h => by
    obtain ⟨s1, e, h1⟩ := hf 0 x rfl s h
    obtain ⟨s2, e2, h2⟩ := foldR_invN (xs := xs) (n := n + 1) (I := I) (fun k y hy s hs => by
      have z := hf (k + 1) y hy s (by rw [show n + (k + 1) = n + 1 + k by omega]; exact hs)
      rw [show n + (k + 1) + 1 = n + 1 + k + 1 by omega] at z
      exact z) h1
    exact ⟨s2, by show (f s x >>= fun s' => foldR f xs s') = _; rw [e]; exact e2, by rw [List.length_cons, show n + (xs.length + 1) = n + 1 + xs.length by omega]; exact h2⟩
theorem foldR_pure {f : σ → α → Res σ} {g : σ → α → σ} : ∀ {xs : List α} {s : σ}, (∀ x ∈ xs, ∀ s, f s x = .ok (g s x)) → foldR f xs s = .ok (xs.foldl g s)
  | [], s, _ => rfl
  | x :: xs, s, hf => by
    show (f s x >>= fun s' => foldR f xs s') = _
    rw [hf x List.mem_cons_self]
    exact foldR_pure fun y hy => hf y (List.mem_cons_of_mem _ hy)
theorem foldC_inv {f : σ → α → Res (Ctl Ω σ)} {I : σ → Prop} : ∀ {xs : List α} {s : σ}, (∀ x ∈ xs, ∀ s, I s → ∃ s', f s x = .ok (.nx s') ∧ I s') → I s → ∃ s', foldC f xs s = .ok (.nx s') ∧ I s'
  | [], s, _, h => ⟨s, rfl, h⟩
  | x :: xs, s, hf, h => by
    obtain ⟨s1, e, h1⟩ := hf x List.mem_cons_self s h
    obtain ⟨s2, e2, h2⟩ := foldC_inv (xs := xs) (fun y hy => hf y (List.mem_cons_of_mem _ hy)) h1
    exact ⟨s2, by
      show (f s x >>= fun c => _) = _
      rw [e]; exact e2, h2⟩
/-- a loop that goes through with nothing kept -/
theorem foldC_unit {f : Unit → α → Res (Ctl Ω Unit)} {xs : List α} (h : ∀ x ∈ xs, f () x = .ok (.nx ())) : foldC f xs () = .ok (.nx ()) := by
  obtain ⟨s, e, _⟩ := foldC_inv (f := f) (I := fun _ => True) (xs := xs) (s := ()) (fun x hx s _ => ⟨(), h x hx, trivial⟩) trivial
  exact e
theorem lcR_pure {t : α → Res Bool} {f : α → Res β} {b : α → Bool} {g : α → β} : ∀ {xs : List α}, (∀ x ∈ xs, t x = .ok (b x)) → (∀ x ∈ xs, b x = true → f x = .ok (g x)) → lcR t f xs = .ok ((xs.filter b).map g)
  | [], _, _ => rfl
  | x :: xs, ht, hf => by
    have ih := lcR_pure (xs := xs) (fun y hy => ht y (List.mem_cons_of_mem _ hy)) fun y hy => hf y (List.mem_cons_of_mem _ hy)
    show (noX (t x) >>= fun b => if b then noX (f x) >>= fun y => lcR t f xs >>= fun ys => .ok (y :: ys) else lcR t f xs) = _
    rw [ht x List.mem_cons_self, ih]
    cases q : b x with
    | true => rw [List.filter_cons_of_pos q, hf x List.mem_cons_self q]; rfl
    | false => rw [List.filter_cons_of_neg (by rw [q]; decide)]; rfl
/-- every item is told, with a property of its own -/
theorem lcR_all {f : α → Res β} {Q : β → Prop} : ∀ {xs : List α}, (∀ x ∈ xs, ∃ y, f x = .ok y ∧ Q y) → ∃ ys, lcR (fun _ => .ok true) f xs = .ok ys ∧ ys.length = xs.length ∧ ∀ y ∈ ys, Q y
  | [], _ => ⟨[], rfl, rfl, fun _ h => nomatch h⟩
  | x :: xs, h => by
    obtain ⟨y, e, q⟩ := h x List.mem_cons_self
    obtain ⟨ys, e2, l, q2⟩ := lcR_all (xs := xs) fun z hz => h z (List.mem_cons_of_mem _ hz)
    refine ⟨y :: ys, ?_, by simp [l], fun z hz => ?_⟩
    · show (noX (f x) >>= fun y => lcR _ f xs >>= fun ys => .ok (y :: ys)) = _
      rw [e, e2]; rfl
    · rcases List.mem_cons.mp hz with rfl | hz
      · exact q
      · exact q2 z hz
theorem rangeR_is {lo hi : Int} (h1 : -1000000 ≤ lo) (h2 : lo ≤ 1000000) (h3 : -1000000 ≤ hi) (h4 : hi ≤ 1000000) : rangeR lo hi = .ok (rangeL lo hi) := by
  unfold rangeR lim
  rw [if_pos (by refine ⟨?_, ?_, ?_, ?_, ?_⟩ <;> omega)]
theorem mem_rangeL {lo hi x : Int} : x ∈ rangeL lo hi ↔ lo ≤ x ∧ x < hi := by
  unfold rangeL
  rw [List.mem_map]
  constructor
  · rintro ⟨k, hk, rfl⟩
    have := List.mem_range.mp hk
    omega
  · rintro ⟨h1, h2⟩
    exact ⟨(x - lo).toNat, List.mem_range.mpr (by omega), by omega⟩
theorem rangeL_length (lo hi : Int) : (rangeL lo hi).length = (hi - lo).toNat := by simp [rangeL]
theorem rangeL_get {lo hi : Int} {k : Nat} (h : k < (hi - lo).toNat) : (rangeL lo hi)[k]? = some (lo + (k : Int)) := by
  unfold rangeL
  rw [List.getElem?_map, List.getElem?_range h]; rfl
theorem rangeL_lt (lo hi : Int) : (rangeL lo hi).Pairwise (· < ·) := by
  unfold rangeL
  rw [List.pairwise_map]
  exact List.Pairwise.imp (fun h => by omega) List.pairwise_lt_range
theorem getL_is {xs : List α} {i : Int} (h1 : 0 ≤ i) (h2 : i < xs.length) : ∃ v, xs[i.toNat]? = some v ∧ getL xs i = .ok v ∧ v ∈ xs := by
  have hl : i.toNat < xs.length := by omega
  refine ⟨xs[i.toNat], List.getElem?_eq_getElem hl, ?_, List.getElem_mem hl⟩
  unfold getL idx
  rw [if_pos h1, if_pos (by omega)]
  simp only [Option.bind_some, List.getElem?_eq_getElem hl]
theorem mkL_is {xs : List α} (h : xs.length ≤ lim) : mkL xs = .ok xs := if_pos h
theorem mulI_r {a b : Int} (h1 : -big < b) (h2 : b < big) : mulI a b = .ok (a * b) := if_pos (.inr ⟨h1, h2⟩)
theorem mulI_l {a b : Int} (h1 : -big < a) (h2 : a < big) : mulI a b = .ok (a * b) := if_pos (.inl ⟨h1, h2⟩)
theorem modI_ok {a b : Int} (h : b ≠ 0) : modI a b = .ok (a.fmod b) := if_pos h
theorem fdivI_ok {a b : Int} (h : b ≠ 0) (h2 : b.natAbs < 1073741824) : fdivI a b = .ok (a.fdiv b) := if_pos ⟨h, h2⟩
theorem fmod_rng (a : Int) {b : Int} (h : 0 < b) : 0 ≤ a.fmod b ∧ a.fmod b < b := ⟨Int.fmod_nonneg_of_pos a h, Int.fmod_lt_of_pos a h⟩
/-- lists that rise, of the same members, are the same -/
theorem rise_same {xs ys : List Int} (h1 : xs.Pairwise (· < ·)) (h2 : ys.Pairwise (· < ·)) (h : ∀ k, k ∈ xs ↔ k ∈ ys) : xs = ys :=
  sorted_same (h1.imp fun h => by omega) (h1.imp fun h => by omega) (h2.imp fun h => by omega) (h2.imp fun h => by omega) h
theorem sortS_lt (xs : List Int) : (sortS xs).Pairwise (· < ·) := by
  have h1 := sortS_le xs
  have h2 := sortS_nodup xs
  exact (List.Pairwise.and h1 h2).imp fun ⟨a, b⟩ => by omega
theorem sortS_eq {xs ys : List Int} (h : ys.Pairwise (· < ·)) (hm : ∀ k, k ∈ xs ↔ k ∈ ys) : sortS xs = ys :=
  rise_same (sortS_lt xs) h fun k => sortS_mem.trans (hm k)
theorem sortP_eq {xs ys : List Int} (h : ys.Pairwise (· < ·)) (hn : xs.Nodup) (hm : ∀ k, k ∈ xs ↔ k ∈ ys) : sortP xs = ys :=
  sorted_same (sortP_int_le xs) ((sortP_perm xs).nodup_iff.mpr hn) (h.imp fun h => by omega) (h.imp fun h => by omega) fun k => (sortP_perm xs).mem_iff.trans (hm k)
theorem setI_ok {xs : List Int} (h : xs.length < 4095) : setI xs = .ok xs := if_pos h
end
/-! ### repr -/
theorem shows_int {i : Int} (h0 : 0 ≤ i) (h : i < 10 ^ 38) : (PyData.int i).showable = true ∧ (PyData.int i).leavesShort 40 = true := by
  constructor
  · simp only [PyData.showable, decide_eq_true_eq]
    have h2 : i.natAbs < 2 ^ 127 := by omega
    by_cases e : i.natAbs = 0
    · rw [e]; decide
    · have := (Nat.log2_lt e).mpr h2
      omega
  · simp only [PyData.leavesShort, decide_eq_true_eq]
    have := toString_length_le h0 (k := 38) (by decide) h
    show (Str.ofString (toString i)).length ≤ 40
    omega
theorem shows_ints : ∀ {xs : List Int}, (∀ x ∈ xs, 0 ≤ x ∧ x < 10 ^ 38) → PyData.showableAll (xs.map toD) = true ∧ PyData.leavesShortAll 40 (xs.map toD) = true ∧ PyData.bulkAll (xs.map toD) = xs.length
  | [], _ => ⟨rfl, rfl, rfl⟩
  | x :: xs, h => by
    obtain ⟨h1, h2⟩ := shows_int (h x List.mem_cons_self).1 (h x List.mem_cons_self).2
    obtain ⟨h3, h4, h5⟩ := shows_ints (xs := xs) fun y hy => h y (List.mem_cons_of_mem _ hy)
    refine ⟨?_, ?_, ?_⟩
    · show ((PyData.int x).showable && _) = true
      rw [h1, h3]; rfl
    · show ((PyData.int x).leavesShort 40 && _) = true
      rw [h2, h4]; rfl
    · show 0 + 1 + PyData.bulkAll (xs.map toD) = _
      rw [h5, List.length_cons]; omega
theorem reprR_of {α : Type} [Enc α] {x : α} (h1 : (toD x).showable = true) (h2 : (toD x).leavesShort 40 = true) (h3 : (toD x).bulk ≤ 300000) : reprR x = .ok ⟨(toD x).shown⟩ := by
  have h := PyData.shown_le_bulk 40 (by decide) (toD x) h2
  unfold reprR lim
  rw [if_pos ⟨h1, by omega⟩]
theorem reprR_int {i : Int} (h0 : 0 ≤ i) (h : i < 10 ^ 38) : reprR i = .ok ⟨(toD i).shown⟩ := reprR_of (shows_int h0 h).1 (shows_int h0 h).2 (by show 0 ≤ _; omega)
theorem reprR_ints {xs : List Int} (h : ∀ x ∈ xs, 0 ≤ x ∧ x < 10 ^ 38) (hl : xs.length ≤ 300000) : reprR xs = .ok ⟨(toD xs).shown⟩ := by
  obtain ⟨h1, h2, h3⟩ := shows_ints h
  exact reprR_of (x := xs) (show PyData.showableAll _ = true from h1) (show PyData.leavesShortAll 40 _ = true from h2) (by show PyData.bulkAll _ ≤ _; rw [h3]; exact hl)
end Vs
end
section
set_option Elab.async false
set_option linter.all false
set_option maxRecDepth 100000
/-! Vs18: the draws and the mix of every law. -/
namespace Vs
open Enc (toD)
open PySem PySem.Spec PyProof.Rows
def Dr._law_draws_l1  : ((List Int) × Int) → Int → Res ((List Int) × Int) := fun σ8 ξ9 =>
  (if (decide (0 < σ8.2)) then ((modI σ8.2 65536) >>= fun τ10 => (pushL σ8.1 τ10) >>= fun draws => (fdivI σ8.2 65536) >>= fun rest => .ok (draws, rest)) else
  (.ok (σ8.1, σ8.2))) >>= fun σ12 => .ok (σ12.1, σ12.2)
def Dr._law_draws_l2 (script : Scr) : ((List Int)) → Int → Res ((List Int)) := fun σ2 ξ3 =>
  (getL script.l ξ3) >>= fun τ4 => (let rest : Int := (absI τ4)
  (powI 10 18) >>= fun τ6 => (if (decide (τ6 ≤ rest)) then ((rangeR 0 60) >>= fun τ7 => (foldR (Dr._law_draws_l1) τ7 (σ2, rest)) >>= fun σ13 => .ok σ13.1) else
  ((mulI rest 48271) >>= fun τ15 => (mulI (ξ3 + 1) 69621) >>= fun τ16 => (modI (τ15 + τ16) 2147483647) >>= fun stirred => (mulI stirred 16807) >>= fun τ22 => (mulI 11 ξ3) >>= fun τ23 => (modI ((τ22 + τ23) + 5) 2147483629) >>= fun stirred => (modI stirred 65536) >>= fun τ25 => (pushL σ2 τ25) >>= fun draws => (fdivI stirred 65536) >>= fun τ26 => (modI τ26 32768) >>= fun τ27 => (pushL draws τ27) >>= fun draws => .ok draws)) >>= fun σ28 => .ok σ28)
def Dr._law_draws (script : Scr) : Res (List Int) :=
  (let draws : (List Int) := ([] : (List Int))
  (rangeR 0 (min2 63 (lenL script.l))) >>= fun τ1 => (foldR (Dr._law_draws_l2 script) τ1 draws) >>= fun σ29 => .ok σ29)
def Dr._law_mix (draws : (List Int)) (k : Int) (many : Int) : Res Int :=
  (let cell : Int := 0
  (if (decide (0 < (lenL draws))) then ((modI k (lenL draws)) >>= fun τ2 => (getL draws τ2) >>= fun cell => .ok cell) else
  (.ok cell)) >>= fun σ3 => (if (decide (k < (lenL draws))) then ((modI σ3 many) >>= fun τ4 => .ok τ4) else
  ((mulI σ3 7919) >>= fun τ6 => (mulI k 104729) >>= fun τ7 => (fdivI (τ6 + τ7) 3) >>= fun τ8 => (modI τ8 many) >>= fun τ9 => .ok τ9)))
def DrawsOk (d : List Int) : Prop := ∀ x ∈ d, 0 ≤ x ∧ x < 65536
theorem draws_l1 {d : List Int} {r : Int} {ξ : Int} (h : DrawsOk d) (hl : d.length ≤ 1000000) : ∃ d2 r2, Dr._law_draws_l1 (d, r) ξ = .ok (d2, r2) ∧ DrawsOk d2 ∧ d2.length ≤ d.length + 1 := by
  unfold Dr._law_draws_l1
  by_cases c : 0 < r
  · have m := fmod_rng r (b := 65536) (by decide)
    simp only [decide_eq_true c, if_true, modI_ok (show (65536 : Int) ≠ 0 by decide), fdivI_ok (show (65536 : Int) ≠ 0 by decide) (by decide), Res.ok_bind, pushL, mkL_is (xs := d ++ [r.fmod 65536]) (by rw [List.length_append]; unfold lim; simp; omega)]
    refine ⟨_, _, rfl, ?_, by simp⟩
    intro x hx
    rcases List.mem_append.mp hx with hx | hx
    · exact h x hx
    · cases List.mem_singleton.mp hx; exact m
  · simp only [decide_eq_false c, Bool.false_eq_true, if_false, Res.ok_bind]
    exact ⟨_, _, rfl, h, by omega⟩
theorem draws_l2 {ns d : List Int} {k : Nat} (hk : k < ns.length) (h : DrawsOk d) (hl : d.length ≤ 100000) : ∃ d2, Dr._law_draws_l2 ⟨ns⟩ d (k : Int) = .ok d2 ∧ DrawsOk d2 ∧ d2.length ≤ d.length + 60 := by
  obtain ⟨v, e1, e2, _⟩ := getL_is (xs := ns) (i := (k : Int)) (by omega) (by omega)
  unfold Dr._law_draws_l2
  have hp : powI 10 18 = .ok 1000000000000000000 := rfl
  simp only [e2, Res.ok_bind, hp]
  by_cases c : 1000000000000000000 ≤ absI v
  · obtain ⟨⟨d2, r2⟩, e, h1, h2⟩ := foldR_invN (f := Dr._law_draws_l1) (I := fun n (z : List Int × Int) => DrawsOk z.1 ∧ z.1.length ≤ d.length + n) (xs := rangeL 0 60) (s := (d, absI v)) (n := 0) (fun j x hx s hs => by
      have hj : j < 60 := by
        have := (List.getElem?_eq_some_iff.mp hx).1
        rw [rangeL_length] at this
        exact this
      obtain ⟨d3, r3, e, h1, h2⟩ := draws_l1 (d := s.1) (r := s.2) (ξ := x) hs.1 (by have := hs.2; omega)
      exact ⟨(d3, r3), e, h1, by have := hs.2; show d3.length ≤ _; omega⟩) ⟨h, by simp⟩
    simp only [decide_eq_true c, if_true, rangeR_is (lo := 0) (hi := 60) (by decide) (by decide) (by decide) (by decide), Res.ok_bind, e]
    refine ⟨d2, rfl, h1, ?_⟩
    rw [rangeL_length] at h2
    simpa using h2
  · simp only [decide_eq_false c, Bool.false_eq_true, if_false, mulI_r (b := 48271) (by decide) (by decide), mulI_r (b := 69621) (by decide) (by decide), mulI_r (b := 16807) (by decide) (by decide), mulI_l (a := 11) (by decide) (by decide),
      modI_ok (show (2147483647 : Int) ≠ 0 by decide), modI_ok (show (2147483629 : Int) ≠ 0 by decide), modI_ok (show (65536 : Int) ≠ 0 by decide), modI_ok (show (32768 : Int) ≠ 0 by decide), fdivI_ok (show (65536 : Int) ≠ 0 by decide) (by decide), Res.ok_bind]
    generalize hs : ((((absI v * 48271 + ((k : Int) + 1) * 69621).fmod 2147483647) * 16807 + 11 * (k : Int) + 5).fmod 2147483629) = st
    simp only [pushL, mkL_is (xs := d ++ [st.fmod 65536]) (by rw [List.length_append]; unfold lim; simp; omega), Res.ok_bind, mkL_is (xs := d ++ [st.fmod 65536] ++ [(st.fdiv 65536).fmod 32768]) (by rw [List.length_append, List.length_append]; unfold lim; simp; omega)]
    refine ⟨_, rfl, ?_, by simp⟩
    intro x hx
    rcases List.mem_append.mp hx with hx | hx
    · rcases List.mem_append.mp hx with hx | hx
      · exact h x hx
      · cases List.mem_singleton.mp hx; exact fmod_rng _ (by decide)
    · cases List.mem_singleton.mp hx
      have := fmod_rng (st.fdiv 65536) (b := 32768) (by decide)
      omega
theorem draws_ok {ns : List Int} (hn : ns.length ≤ 63) : ∃ d, Dr._law_draws ⟨ns⟩ = .ok d ∧ DrawsOk d ∧ d.length ≤ 4000 := by
  unfold Dr._law_draws
  have hm : min2 63 (lenL ns) = ns.length := by
    unfold min2 lenL
    split <;> omega
  simp only [hm, rangeR_is (lo := 0) (hi := (ns.length : Int)) (by decide) (by decide) (by omega) (by omega), Res.ok_bind]
  obtain ⟨d, e, h1, h2⟩ := foldR_invN (f := Dr._law_draws_l2 ⟨ns⟩) (I := fun n (z : List Int) => DrawsOk z ∧ z.length ≤ 60 * n) (xs := rangeL 0 (ns.length : Int)) (s := []) (n := 0) (fun j x hx s hs => by
      have hj : j < ns.length := by
        have := (List.getElem?_eq_some_iff.mp hx).1
        rw [rangeL_length] at this
        omega
      have ex : x = (j : Int) := by
        rw [rangeL_get (by omega)] at hx
        cases hx; omega
      obtain ⟨d3, e, h1, h2⟩ := draws_l2 (ns := ns) (d := s) (k := j) hj hs.1 (by have := hs.2; omega)
      rw [ex]
      exact ⟨d3, e, h1, by have := hs.2; omega⟩) ⟨(fun _ h => nomatch h), by simp⟩
  rw [e]
  refine ⟨d, rfl, h1, ?_⟩
  rw [rangeL_length] at h2
  omega
theorem mix_ok {d : List Int} (k : Int) {many : Int} (hm : 0 < many) : ∃ r, Dr._law_mix d k many = .ok r ∧ 0 ≤ r ∧ r < many := by
  unfold Dr._law_mix
  have hm2 : many ≠ 0 := by omega
  have key : ∃ c, ((if decide (0 < lenL d) = true then (modI k (lenL d)) >>= fun τ2 => (getL d τ2) >>= fun cell => .ok cell else .ok 0) : Res Int) = .ok c := by
    by_cases c : 0 < lenL d
    · have z := fmod_rng k c
      obtain ⟨v, _, e2, _⟩ := getL_is (xs := d) z.1 z.2
      exact ⟨v, by rw [if_pos (decide_eq_true c), modI_ok (by omega)]; simp only [Res.ok_bind, e2]⟩
    · exact ⟨0, by rw [if_neg (by rw [decide_eq_false c]; decide)]⟩
  obtain ⟨c, e⟩ := key
  simp only [e, Res.ok_bind]
  by_cases c2 : k < lenL d
  · simp only [decide_eq_true c2, if_true, modI_ok hm2, Res.ok_bind]
    exact ⟨_, rfl, fmod_rng _ hm⟩
  · simp only [decide_eq_false c2, Bool.false_eq_true, if_false, modI_ok hm2, mulI_r (b := 7919) (by decide) (by decide), mulI_r (b := 104729) (by decide) (by decide), fdivI_ok (show (3 : Int) ≠ 0 by decide) (by decide), Res.ok_bind]
    exact ⟨_, rfl, fmod_rng _ hm⟩
end Vs
end
section
set_option Elab.async false
set_option linter.all false
set_option maxRecDepth 100000
set_option maxHeartbeats 1000000
/-! Vs19: orders that are total; what sorting gives. -/
namespace Vs
open Enc (toD)
open PySem PySem.Spec PyProof.Rows L2
class OrdT (α : Type) [Ord1 α] : Prop where
  irr : ∀ a : α, Ord1.lt a a = false
  tr : ∀ a b c : α, Ord1.lt a b = true → Ord1.lt b c = true → Ord1.lt a c = true
  tri : ∀ a b : α, Ord1.lt a b = false → Ord1.lt b a = false → a = b
instance : OrdT Int := ⟨fun a => decide_eq_false (Int.lt_irrefl a), fun a b c h1 h2 => decide_eq_true (Int.lt_trans (of_decide_eq_true h1) (of_decide_eq_true h2)), fun a b h1 h2 => by
  have h1 := of_decide_eq_false h1
  have h2 := of_decide_eq_false h2
  omega⟩
instance : OrdT Bool := ⟨by decide, by decide, by decide⟩
section
variable {α β γ δ : Type} [Ord1 α] [Ord1 β] [Ord1 γ] [Ord1 δ] [DecidableEq α] [DecidableEq β] [DecidableEq γ] [DecidableEq δ]
theorem OrdT.asym [OrdT α] {a b : α} (h : Ord1.lt a b = true) : Ord1.lt b a = false := by
  cases e : Ord1.lt b a with
  | false => rfl
  | true => have := OrdT.tr a b a h e; rw [OrdT.irr] at this; cases this
theorem OrdT.ne [OrdT α] {a b : α} (h : Ord1.lt a b = true) : a ≠ b := fun e => by rw [e, OrdT.irr] at h; cases h
theorem ltRow_irr [OrdT α] : ∀ xs : List α, ltRow xs xs = false
  | [] => rfl
  | x :: xs => by unfold ltRow; rw [if_pos rfl]; exact ltRow_irr xs
theorem ltRow_tr [OrdT α] : ∀ xs ys zs : List α, ltRow xs ys = true → ltRow ys zs = true → ltRow xs zs = true
  | [], [], _, h, _ => by cases h
  | [], _ :: _, [], _, h => by cases h
  | [], _ :: _, _ :: _, _, _ => rfl
  | _ :: _, [], _, h, _ => by cases h
  | _ :: _, _ :: _, [], _, h => by cases h
  | x :: xs, y :: ys, z :: zs, h1, h2 => by
    unfold ltRow at h1 h2 ⊢
    by_cases e1 : x = y
    · subst e1
      rw [if_pos rfl] at h1
      by_cases e2 : x = z
      · rw [if_pos e2] at h2 ⊢; exact ltRow_tr xs ys zs h1 h2
      · rw [if_neg e2] at h2 ⊢; exact h2
    · rw [if_neg e1] at h1
      by_cases e2 : y = z
      · subst e2; rw [if_neg e1]; exact h1
      · rw [if_neg e2] at h2
        have h3 := OrdT.tr _ _ _ h1 h2
        rw [if_neg (OrdT.ne h3)]; exact h3
theorem ltRow_tri [OrdT α] : ∀ xs ys : List α, ltRow xs ys = false → ltRow ys xs = false → xs = ys
  | [], [], _, _ => rfl
  | [], _ :: _, h, _ => by cases h
  | _ :: _, [], _, h => by cases h
  | x :: xs, y :: ys, h1, h2 => by
    unfold ltRow at h1 h2
    by_cases e : x = y
    · subst e
      rw [if_pos rfl] at h1 h2
      rw [ltRow_tri xs ys h1 h2]
    · rw [if_neg e] at h1
      rw [if_neg (Ne.symm e)] at h2
      exact absurd (OrdT.tri _ _ h1 h2) e
instance [OrdT α] : OrdT (List α) := ⟨ltRow_irr, ltRow_tr, ltRow_tri⟩
instance [OrdT α] : OrdT (Tup α) := ⟨fun a => ltRow_irr a.l, fun a b c => ltRow_tr a.l b.l c.l, fun a b h1 h2 => by
  have := ltRow_tri a.l b.l h1 h2
  cases a; cases b; exact congrArg Tup.mk this⟩
theorem pair_lt_iff {a b : α × β} : Ord1.lt a b = (if a.1 = b.1 then Ord1.lt a.2 b.2 else Ord1.lt a.1 b.1) := rfl
instance [OrdT α] [OrdT β] : OrdT (α × β) := ⟨fun a => by rw [pair_lt_iff, if_pos rfl]; exact OrdT.irr _, fun a b c h1 h2 => by
  rw [pair_lt_iff] at h1 h2 ⊢
  by_cases e1 : a.1 = b.1
  · rw [if_pos e1] at h1
    by_cases e2 : b.1 = c.1
    · rw [if_pos e2] at h2; rw [if_pos (e1.trans e2)]; exact OrdT.tr _ _ _ h1 h2
    · rw [if_neg e2] at h2; rw [if_neg (by rw [e1]; exact e2), e1]; exact h2
  · rw [if_neg e1] at h1
    by_cases e2 : b.1 = c.1
    · rw [if_neg (by rw [← e2]; exact e1), ← e2]; exact h1
    · rw [if_neg e2] at h2
      have h3 := OrdT.tr _ _ _ h1 h2
      rw [if_neg (OrdT.ne h3)]; exact h3, fun a b h1 h2 => by
  rw [pair_lt_iff] at h1 h2
  by_cases e : a.1 = b.1
  · rw [if_pos e] at h1
    rw [if_pos e.symm] at h2
    exact Prod.ext e (OrdT.tri _ _ h1 h2)
  · rw [if_neg e] at h1
    rw [if_neg (Ne.symm e)] at h2
    exact absurd (OrdT.tri _ _ h1 h2) e⟩
instance [OrdT α] [OrdT β] [OrdT γ] : OrdT (T3 α β γ) := by
  have q : ∀ a b : T3 α β γ, Ord1.lt a b = Ord1.lt (a.a, (a.b, a.c)) (b.a, (b.b, b.c)) := fun a b => rfl
  refine ⟨fun a => by rw [q]; exact OrdT.irr _, fun a b c h1 h2 => by rw [q] at h1 h2 ⊢; exact OrdT.tr _ _ _ h1 h2, fun a b h1 h2 => ?_⟩
  rw [q] at h1 h2
  have := OrdT.tri _ _ h1 h2
  cases a; cases b; simp only [Prod.mk.injEq] at this; obtain ⟨rfl, rfl, rfl⟩ := this; rfl
instance [OrdT α] [OrdT β] [OrdT γ] [OrdT δ] : OrdT (T4 α β γ δ) := by
  have q : ∀ a b : T4 α β γ δ, Ord1.lt a b = Ord1.lt (a.a, (a.b, (a.c, a.d))) (b.a, (b.b, (b.c, b.d))) := fun a b => rfl
  refine ⟨fun a => by rw [q]; exact OrdT.irr _, fun a b c h1 h2 => by rw [q] at h1 h2 ⊢; exact OrdT.tr _ _ _ h1 h2, fun a b h1 h2 => ?_⟩
  rw [q] at h1 h2
  have := OrdT.tri _ _ h1 h2
  cases a; cases b; simp only [Prod.mk.injEq] at this; obtain ⟨rfl, rfl, rfl, rfl⟩ := this; rfl
/-! ### sorting -/
theorem le_tr [OrdT α] {a b c : α} (h1 : Ord1.lt b a = false) (h2 : Ord1.lt c b = false) : Ord1.lt c a = false := by
  cases e : Ord1.lt c a with
  | false => rfl
  | true =>
    cases e2 : Ord1.lt a b with
    | true => rw [OrdT.tr _ _ _ e e2] at h2; cases h2
    | false => rw [OrdT.tri _ _ e2 h1] at e; rw [e] at h2; cases h2
theorem sortP_le [OrdT α] (xs : List α) : (sortP xs).Pairwise fun a b => Ord1.lt b a = false := by
  unfold sortP
  refine (List.pairwise_mergeSort (le := fun a b => !Ord1.lt b a) (fun a b c h1 h2 => ?_) (fun a b => ?_) xs).imp fun h => by simpa using h
  · simp only [Bool.not_eq_true'] at *; exact le_tr h1 h2
  · cases e : Ord1.lt b a with
    | false => simp
    | true => simp [OrdT.asym e]
theorem sortP_uniq [OrdT α] {xs ys : List α} (h : ys.Pairwise fun a b => Ord1.lt b a = false) (p : ys.Perm xs) : sortP xs = ys :=
  List.Perm.eq_of_pairwise (le := fun a b => Ord1.lt b a = false) (fun a b _ _ h1 h2 => OrdT.tri _ _ h2 h1) (sortP_le xs) h ((List.mergeSort_perm _ _).trans p.symm)
theorem sortP_congr [OrdT α] {xs ys : List α} (p : xs.Perm ys) : sortP xs = sortP ys := sortP_uniq (sortP_le ys) ((List.mergeSort_perm _ _).trans p.symm)
theorem mem_sortP {xs : List α} {x : α} : x ∈ sortP xs ↔ x ∈ xs := (List.mergeSort_perm _ _).mem_iff
theorem sortP_len (xs : List α) : (sortP xs).length = xs.length := (List.mergeSort_perm _ _).length_eq
theorem mem_sortS {xs : List α} {x : α} : x ∈ sortS xs ↔ x ∈ xs := mem_sortP.trans mem_dedup
theorem sortS_lt' [OrdT α] (xs : List α) : (sortS xs).Pairwise fun a b => Ord1.lt a b = true := by
  have n : (sortS xs).Nodup := (List.mergeSort_perm _ _).nodup_iff.mpr (nodup_dedup xs)
  refine (List.Pairwise.and (sortP_le (dedup xs)) n).imp fun {a b} h => ?_
  cases e : Ord1.lt a b with
  | true => rfl
  | false => exact absurd (OrdT.tri _ _ e h.1) h.2
theorem nodup_of_lt [OrdT α] {xs : List α} (h : xs.Pairwise fun a b => Ord1.lt a b = true) : xs.Nodup := h.imp fun h => OrdT.ne h
/-- rows that rise, of the same members -/
theorem rise_uniq [OrdT α] {xs ys : List α} (h1 : xs.Pairwise fun a b => Ord1.lt a b = true) (h2 : ys.Pairwise fun a b => Ord1.lt a b = true) (h : ∀ k, k ∈ xs ↔ k ∈ ys) : xs = ys :=
  List.Perm.eq_of_pairwise (le := fun a b => Ord1.lt a b = true) (fun a b _ _ h1 h2 => by rw [OrdT.asym h1] at h2; cases h2) h1 h2 ((List.perm_ext_iff_of_nodup (nodup_of_lt h1) (nodup_of_lt h2)).mpr h)
theorem sortS_uniq [OrdT α] {xs ys : List α} (h : ys.Pairwise fun a b => Ord1.lt a b = true) (hm : ∀ k, k ∈ xs ↔ k ∈ ys) : sortS xs = ys := rise_uniq (sortS_lt' xs) h fun k => mem_sortS.trans (hm k)
theorem sortS_congr [OrdT α] {xs ys : List α} (hm : ∀ k, k ∈ xs ↔ k ∈ ys) : sortS xs = sortS ys := sortS_uniq (sortS_lt' ys) fun k => (hm k).trans mem_sortS.symm
theorem dedup_len_congr {xs ys : List α} (hm : ∀ k, k ∈ xs ↔ k ∈ ys) : (dedup xs).length = (dedup ys).length :=
  ((List.perm_ext_iff_of_nodup (nodup_dedup xs) (nodup_dedup ys)).mpr fun k => mem_dedup.trans ((hm k).trans mem_dedup.symm)).length_eq
theorem sortS_len (xs : List α) : (sortS xs).length = (dedup xs).length := sortP_len _
end
end Vs
end
section
set_option Elab.async false
set_option linter.all false
set_option maxRecDepth 100000
set_option maxHeartbeats 2000000
/-! Vs20: set comprehensions; sets of tuples of ints. -/
namespace Vs
open Enc (toD)
open PySem PySem.Spec PyProof.Rows L2
/-- a new, empty set -/
abbrev set0 (w : World) : Obj := { cls := .type "set", dict := none, data := .set #[] 0 (.fresh 0 0 (!w.params.followText "set-order")) }
/-- how sets of one kind of things are tracked -/
structure SKd (P : Program) (w : World) where
  κ : Type
  ι : Type
  ob : Addr → κ → HO
  z : κ
  fresh : ∀ (H : Hp) (h : Heap), ObjOk P w H (h.push (set0 w)) h.objs.size (ob h.objs.size z)
  pre : PySem.W.Frag → V → Hp → κ → ι → Prop
  nx : V → κ → ι → κ → Prop
  add : ∀ {X : Cx} {pins : List (Addr × Obj)} {σ : St} {H : Hp} {s : Shared} {D : Addr} {k : κ} {i : ι} {v : V} {u : Value} {E : Value → Shared → Prop} {Q : Value → Shared → Prop}, X.prog = P → X.w = w → X.calm = true → X.A.units + 64 < cLine → Inv X pins σ H s → H D = some (ob D k) → RelV v u → pre X.K v H k i →
    (∀ k' s', nx v k i k' → Inv X pins σ (upd H D (ob D k')) s' → Q .none s') → wpAny (model X.prog X.w) X.A (call (.builtin "set.add") [.ref D, u]) Q E s
section
variable {X : Cx}
/-- {elt for target in iter if ..}: D the new set -/
def tScG {P : Program} {w : World} (K : PySem.W.Frag) (S : SKd P w) (wi : TI) (g : TG) (tt : TT) (te : TE) (vs : List Nat) : TE := fun σ H Q => wi σ H fun J H1 => ∀ D, H1 D = none → ∃ W : Nat → Nat → Hp → Prop, (∃ m, W 0 m (upd H1 D (S.ob D S.z))) ∧ ∀ i m H, W i m H →
  (J.stop i H ∧ Q (.ref D) H) ∨ (J.go i H ∧ ∃ Nx : Hp → Prop, (∀ H', Nx H' → ∃ m', m' < m ∧ W (i + 1) m' H') ∧ ∀ x H', J.yld i H x H' → g x (wipe σ vs) H' fun σ2 H2 => wipe σ2 vs = wipe σ vs ∧ tt σ2 H2 fun b H3 =>
    if b = true then te σ2 H3 fun y H4 => ∃ k i, H4 D = some (S.ob D k) ∧ S.pre K y H4 k i ∧ ∀ k', S.nx y k i k' → Nx (upd H4 D (S.ob D k')) else Nx H3)
theorem scG_core (S : SKd X.prog X.w) {pins : List (Addr × Obj)} {s : Shared} {σ : L2.St} {H : Hp} {Q : VK} {elt tg iter : Expr} {ifs : List Expr} {scope : Scope} {own : List (PySem.Str × Nat)} {pos pos' : Pos} {wi : TI} {g : TG} {tt : TT} {te : TE} {use : Option (Value → Sem Unit)} {Qf : Value → Shared → Prop}
    (hc : X.calm = true) (hu : X.A.units + 64 < cLine) (hN : X.N.Nodup) (I : Inv X pins σ H s) (hi : PI X tg iter wi) (ok : BlkOk X.N X.env.scope scope own)
    (hg : ∀ (s : Shared) (H : Hp) (C : Addr) (cl : List (PySem.Str × Addr)) (fp : List Addr), PG (X.blk s H scope (compEnvC scope cl C X.env) fp) tg g) (ht : ∀ (s : Shared) (H : Hp) (C : Addr) (cl : List (PySem.Str × Addr)) (fp : List Addr), PTs (X.blk s H scope (compEnvC scope cl C X.env) fp) ifs tt)
    (he : ∀ (s : Shared) (H : Hp) (C : Addr) (cl : List (PySem.Str × Addr)) (fp : List Addr), PE (X.blk s H scope (compEnvC scope cl C X.env) fp) elt te) (hs : ∀ x, foldedSetIterable iter X.env x = pure x)
    (h : tScG X.K S wi g tt te (own.map (·.2)) σ H Q)
    (hRR : ∀ D C s' m H', Inv X pins σ H' s' → Q (.ref D) H' → s'.heap.Ns C m → FpOk X pins H' C → compPost (model X.prog X.w) X.A X.xe use Qf (.ref D) C (.ok .next) s') :
    wpAny (model X.prog X.w) X.A (comprehension (.SetComp elt [⟨tg, iter, ifs, 0⟩] scope pos) scope X.env pos' (newSet (.type "set")) false (eval iter X.env) use) Qf X.xe s := by
  have free : ∀ y ∈ scope.names, y.2 = .free → ∃ c, X.env.cells.lookup y.1 = some c := fun y hy e =>
    (ok.free y hy e).elim (fun k => I.ok.has _ (.inl k)) fun k => I.ok.has _ (.inr k)
  refine wpAny_comprehension_free (use := use) rfl hs (closure_ok free) ok.kind (fun y hy e => by rw [ok.uniq y hy, e]) (thn (hi.run pins s σ H _ I h) fun xv s1 hx => thn hx fun itv s2 h2 => ?_)
  obtain ⟨it, fp, tn, J, H2, rfl, I2, T, st2, f2, q⟩ := h2
  refine PpSet.newSet_ok (newEnv_comp ?_)
  have hDn : H2 s2.heap.objs.size = none := I2.hok.fresh (Nat.le_refl _)
  obtain ⟨W, ⟨m0, w0⟩, turn⟩ := q s2.heap.objs.size hDn
  have I3 : Inv X pins σ (upd H2 s2.heap.objs.size (S.ob s2.heap.objs.size S.z)) { s2 with heap := s2.heap.push (set0 X.w) } :=
    I2.laid (t' := s2.toks) (fun b o e => Heap.get?_push_of_some _ e) (Nat.le_refl _) (S.fresh _ _)
  have old : ∀ b o, s2.heap.get? b = some o → (s2.heap.push (set0 X.w)).get? b = some o := fun b o e => Heap.get?_push_of_some _ e
  have dsz : (s2.heap.push (set0 X.w)).objs.size = s2.heap.objs.size + 1 := Heap.size_push _ _
  have sz : ∀ b ∈ fp, b < s2.heap.objs.size := fun b hb => by
    obtain ⟨o, e, _⟩ := T.obj _ _ st2 b hb
    exact Heap.lt_size e
  have f3 : ∀ b ∈ fp, FpOk X pins (upd H2 s2.heap.objs.size (S.ob s2.heap.objs.size S.z)) b ∧ b < (s2.heap.push (set0 X.w)).objs.size := fun b hb =>
    ⟨⟨by rw [upd_ne (Nat.ne_of_lt (sz b hb))]; exact (f2 b hb).1, (f2 b hb).2⟩, by rw [dsz]; exact Nat.lt_succ_of_lt (sz b hb)⟩
  generalize s2.heap.objs.size = D at *
  generalize hs3 : ({ s2 with heap := s2.heap.push (set0 X.w) } : Shared) = s3 at *
  have h3 : s3.heap = s2.heap.push (set0 X.w) := by rw [← hs3]
  have st3 : tn 0 s3.heap := T.keep _ _ _ st2 fun b _ o e => by rw [h3]; exact old b o e
  rw [← h3] at f3
  have I4 := block_start I3 ok hN f3
  generalize hH3 : upd H2 D (S.ob D S.z) = H3 at *
  have pg := hg s3 H3 s3.heap.objs.size (cellsFrom (s3.heap.objs.size + 1) scope.names (cloFrom X.env.cells scope.names [])) fp
  have pt := ht s3 H3 s3.heap.objs.size (cellsFrom (s3.heap.objs.size + 1) scope.names (cloFrom X.env.cells scope.names [])) fp
  have pe := he s3 H3 s3.heap.objs.size (cellsFrom (s3.heap.objs.size + 1) scope.names (cloFrom X.env.cells scope.names [])) fp
  show codeAny _ _ (.compStart (.SetComp elt [⟨tg, iter, ifs, 0⟩] scope pos) 0 (.ref it) (.ref D) (compEnvC scope (cellsFrom (s3.heap.objs.size + 1) scope.names (cloFrom X.env.cells scope.names [])) s3.heap.objs.size X.env)) (compPost (model X.prog X.w) X.A X.xe use Qf (.ref D) s3.heap.objs.size) { s3 with heap := pushCells (s3.heap.push { cls := .type "dict", data := .dict #[] }) scope.names }
  have nfp : ∀ b ∈ fp, H3 b = none := fun b hb => (f3 b hb).1.1
  generalize hce : compEnvC scope (cellsFrom (s3.heap.objs.size + 1) scope.names (cloFrom X.env.cells scope.names [])) s3.heap.objs.size X.env = ce at *
  have cL : ce.locals = s3.heap.objs.size := by subst hce; rfl
  generalize hs4 : ({ s3 with heap := pushCells (s3.heap.push { cls := .type "dict", data := .dict #[] }) scope.names } : Shared) = s4 at *
  have st4 : tn 0 s4.heap := T.keep _ _ _ st3 fun b _ o e => by rw [← hs4]; exact pushCells_keeps _ _ _ _ (Heap.get?_push_of_some _ e)
  have stat : ∀ {σ' : L2.St} {H' : Hp} {s' : Shared}, Inv (X.blk s3 H3 scope ce fp) [] σ' H' s' → (∀ b ∈ fp, H' b = none) → ∀ b ∈ fp, FpOk (X.blk s3 H3 scope ce fp) [] H' b := fun {σ' H' s'} I' hn b hb =>
    ⟨hn b hb, (I'.ok.exf b hb).1, I'.ok.exfs b hb, .inl hb, fun x c e => (I'.ok.exf b hb).2 x c e, fun p hp => absurd (show p ∈ ([] : List (Addr × Obj)) ++ [] from hp) (by simp)⟩
  refine PpSet.codeAny_compStart_set ?lp (T.self X.A 0 _ _ _ st4 ?lp)
  refine PpSet.compLoopS_any (fun n s' => ∃ i H', Inv (X.blk s3 H3 scope ce fp) [] (wipe σ (own.map (·.2))) H' s' ∧ tn i s'.heap ∧ (∀ b ∈ fp, H' b = none) ∧ W i n H') ?_ m0 ⟨0, H3, I4, st4, nfp, w0⟩
  rintro n s5 ⟨i, H5, I5, st5, n5, w5⟩
  rcases turn i n H5 w5 with ⟨stop, qq⟩ | ⟨go, Nx, hNx, step⟩
  · refine thnF (T.done (X.blk s3 H3 scope ce fp) rfl rfl rfl hc i [] s5 _ H5 (fun _ _ => False) I5 (stat I5 n5) st5 stop) fun r s6 ⟨hr, I6⟩ => ?_
    subst hr
    have I7 : Inv X pins σ H5 s6 := I3.call' (ch := fp) I6.os I6.base I6.hok I6.bare fun b hb => ⟨(f3 b hb).1.2.2.2.1, (f3 b hb).1.2.1, (f3 b hb).1.2.2.2.2.1, (f3 b hb).1.2.2.2.2.2⟩
    have nC : H5 s3.heap.objs.size = none := by rw [← cL]; exact I6.free
    obtain ⟨m, hn, _⟩ := I6.loc
    have hn : s6.heap.Ns ce.locals m := hn
    rw [cL] at hn
    exact hRR D s3.heap.objs.size s6 m H5 I7 qq hn (I3.fpOk (Nat.le_refl _) nC)
  · refine thnF (T.item (X.blk s3 H3 scope ce fp) rfl rfl rfl hc i [] s5 _ H5 (fun _ _ => False) I5 (stat I5 n5) st5 go) fun r s6 ⟨u, hr, h6⟩ => ?_
    subst hr
    refine thnF h6 fun _ s7 ⟨x, H7, I7, r7, y7, st7, n7⟩ => ?_
    have I7' := I7.pinned (stat I7 n7) (T.obj _ _ st7)
    refine thnF (pg.run _ s7 _ H7 x u _ I7' r7 (step x H7 y7)) fun _ s8 ⟨σ8, H8, I8, hw8, q8⟩ => ?_
    refine thnF (pt.run _ s8 σ8 H8 _ I8 q8) fun b s9 ⟨H9, I9, q9⟩ => ?_
    have fin : ∀ {s' : Shared} {H' : Hp}, Inv (X.blk s3 H3 scope ce fp) ([] ++ pinsAt fp s7.heap) σ8 H' s' → Nx H' → ∃ m, m < n ∧ ∃ i H', Inv (X.blk s3 H3 scope ce fp) [] (wipe σ (own.map (·.2))) H' s' ∧ tn i s'.heap ∧ (∀ b ∈ fp, H' b = none) ∧ W i m H' := fun {s' H'} I' nx => by
      obtain ⟨m', hm, w'⟩ := hNx H' nx
      have pin' : ∀ b ∈ fp, ∀ o, s7.heap.get? b = some o → s'.heap.get? b = some o ∧ H' b = none := fun b hb o e =>
        let z := I'.pin (b, o) (List.mem_append_right _ (List.mem_append_right _ (mem_pinsAt hb e)))
        ⟨z.1, z.2.1⟩
      have hl : (wipe σ (own.map (·.2))).length = σ8.length := by rw [← hw8, wipe_length]
      refine ⟨m', hm, i + 1, H', (I'.unpinned (pins := [])).weak hl (fun j v e => ?_), T.keep _ _ _ st7 fun b hb o e => (pin' b hb o e).1, fun b hb => ?_, w'⟩
      · rw [← hw8] at e
        exact (wipe_some e).1
      · obtain ⟨o, e, _⟩ := T.obj _ _ st7 b hb
        exact (pin' b hb o e).2
    cases b with
    | false =>
      simp only [Bool.false_eq_true, if_false] at q9 ⊢
      exact fin I9 q9
    | true =>
      simp only [if_true] at q9 ⊢
      refine thnF (pe.run _ s9 σ8 H9 _ I9 q9) fun z s10 ⟨yv, H10, I10, r10, k0, i0, hD10, hp10, nx⟩ => ?_
      exact S.add (X := X.blk s3 H3 scope ce fp) rfl rfl hc hu I10 hD10 r10 hp10 fun k' s11 n11 I11 => fin I11 (nx k' n11)
theorem pe_scG (S : SKd X.prog X.w) {elt tg iter : Expr} {ifs : List Expr} {scope : Scope} {own : List (PySem.Str × Nat)} {pos : Pos} {wi : TI} {g : TG} {tt : TT} {te : TE} (hc : X.calm = true) (hu : X.A.units + 64 < cLine) (hN : X.N.Nodup) (hi : PI X tg iter wi) (ok : BlkOk X.N X.env.scope scope own)
    (hg : ∀ (s : Shared) (H : Hp) (C : Addr) (cl : List (PySem.Str × Addr)) (fp : List Addr), PG (X.blk s H scope (compEnvC scope cl C X.env) fp) tg g) (ht : ∀ (s : Shared) (H : Hp) (C : Addr) (cl : List (PySem.Str × Addr)) (fp : List Addr), PTs (X.blk s H scope (compEnvC scope cl C X.env) fp) ifs tt)
    (he : ∀ (s : Shared) (H : Hp) (C : Addr) (cl : List (PySem.Str × Addr)) (fp : List Addr), PE (X.blk s H scope (compEnvC scope cl C X.env) fp) elt te) (hs : ∀ x, foldedSetIterable iter X.env x = pure x := by intro _; rfl) :
    PE X (.SetComp elt [⟨tg, iter, ifs, 0⟩] scope pos) (tScG X.K S wi g tt te (own.map (·.2))) :=
  ⟨fun pins s σ H Q I h => by
    rw [PpSet.eval_SetComp]
    refine scG_core S hc hu hN I hi ok hg ht he hs h fun D C s' m H' I' q hn ⟨f0, f1, f2, f3, f4, f5⟩ => ⟨m, hn, fun h'' sb => ?_⟩
    exact ⟨.ref D, H', I'.turned (t' := s'.toks) (fun b o hb e => (sb.2 b hb).trans e) f0 f1 f3 f4 f5, rfl, q⟩⟩
end
end Vs
end
section
set_option Elab.async false
set_option linter.all false
set_option maxRecDepth 100000
set_option maxHeartbeats 2000000
/-! Vs21: set comprehensions read; sets of ints, of tuples of ints: made, sorted, their length. -/
namespace Vs
open Enc (toD)
open PySem PySem.Spec PyProof.Rows L2
/-- the members told as data -/
structure SRel {P : Program} {w : World} (S : SKd P w) (K : PySem.W.Frag) (β : Type) [Enc β] where
  R : Hp → S.κ → List β → Prop
  bd : List β → Bool
  nt : ∀ D k, NTup (some (S.ob D k))
  z : ∀ F, R F S.z []
  mono : ∀ {F F' k xs}, Sub F F' → R F k xs → R F' k xs
  step : ∀ {F H : Hp} {k : S.κ} {acc rest : List β} {v : V} {x : β}, Sub F H → R F k acc → bd (acc ++ x :: rest) = true → Rp K F v (toD x) → ∃ i, S.pre K v H k i ∧ ∀ k', S.nx v k i k' → R F k' (acc ++ [x])
def bdL {β : Type} (b : List β → Bool) (xs : List β) : Res (List β) := if b xs = true then .ok xs else .stuck
section
variable {P : Program} {w : World} {S : SKd P w} {K : PySem.W.Frag} {β : Type} [Enc β]
def PostSt (T : SRel S K β) (W : WX) (F H : Hp) (m : Res (List β)) (Q : VK) : Prop := match m with
  | .ok xs => ∀ a F' H' k, Grow F H F' H' → F' a = none → H a = none → H' a = some (S.ob a k) → T.R F' k xs → Q (.ref a) H'
  | .exc c i => ∀ dx F' H' σ', Grow F H F' H' → XdAt H' dx i → H dx = none → W (cv K c) (some dx) σ' H'
  | .stuck => False
def rdSt (T : SRel S K β) (n : Nat) (W : WX) (ρ : Rs) (m : Res (List β)) : TE := fun σ H Q => ∃ F0 H0 F, Rho K n F0 H0 F H σ ρ ∧ PostSt T W F H m Q
/-- what holds of a turn: acc is in the new set D -/
structure ScW (T : SRel S K β) (n : Nat) (F0 H0 F1 : Hp) (σ : St) (ρ1 : Rs) (D : Addr) (F H : Hp) (acc : List β) : Prop where
  R : Rho K n F0 H0 F H σ ρ1
  sf : Sub F1 F
  zf : F D = none
  z0 : H0 D = none
  no : ∀ j e, (j, SV.ow e) ∈ ρ1 → σ[j]? ≠ some (some (.ref D))
  ob : ∃ k, H D = some (S.ob D k) ∧ T.R F k acc
theorem sc_read {α : Type} [Enc α] {ρ : Rs} {W : WX} (T : SRel S K β) {n : Nat} {tg : Expr} {is : List Nat} {ρ1 : Rs} {ρb : α → Rs} {mi : Res (List α)} {mt : α → Res Bool} {me : α → Res β} {vs : List Nat} {σ : St} {H : Hp} {Q : VK}
    (his : ∀ j ∈ is, j ∈ vs) (w1 : ∀ p ∈ ρ1, p ∈ ρ ∧ p.1 ∉ vs) (h : rdSt T n W ρ (do
    let xs ← mi
    let ys ← lcR mt me xs
    bdL T.bd ys) σ H Q) :
    tScG K S (rdI K n W ρ (mi.map fun xs => xs.map toD)) (fun v σ H Q => ∃ x, rdG K n is ρ1 (toD x) (ρb x) v σ H Q) (fun σ H Q => ∃ x, rdT K n W0 (ρb x) (mt x) σ H Q) (fun σ H Q => ∃ x, rdV K n W0 (ρb x) ((me x).map toD) σ H Q) vs σ H Q := by
  obtain ⟨F0, H0, F, R, p⟩ := h
  refine ⟨F0, H0, F, R, ?_⟩
  cases mi with
  | exc c i => exact p
  | stuck => exact p
  | ok xs =>
    intro J F1 H1 g it hz D nD
    have p1 : PostSt T W F H (lcR mt me xs >>= bdL T.bd) Q := p
    cases el : lcR mt me xs with
    | exc c i => exact absurd el lcR_no
    | stuck => rw [el] at p1; exact p1.elim
    | ok out =>
      rw [el, Res.ok_bind] at p1
      unfold bdL at p1
      by_cases hb : T.bd out = true
      · rw [if_pos hb] at p1
        have R1 : Rho K n F0 H0 F1 H1 (wipe σ vs) ρ1 := (R.grow g).wipe w1
        have z0 : H0 D = none := sub_free R.base.h (sub_free g.h nD)
        refine ⟨fun i m H' => ∃ F' acc zs, m = xs.length - i ∧ i ≤ xs.length ∧ ScW T n F0 H0 F1 (wipe σ vs) ρ1 D F' H' acc ∧ lcR mt me (xs.drop i) = .ok zs ∧ acc ++ zs = out ∧ Grow F H F' H',
          ⟨xs.length, F1, [], out, by simp, Nat.zero_le _, ⟨R1.grow (.own R1.fh nD), fun _ _ e => e, sub_free R1.fh nD, z0, fun j e m q => ?_, S.z, upd_same, T.z _⟩, el, rfl, g.trans (.own g.fh nD)⟩, ?_⟩
        · obtain ⟨a, e1, c1, _⟩ := R1.ow j e m
          rw [q] at e1; cases e1
          exact c1.there nD
        · rintro i m H2 ⟨F2, acc, zs, rfl, hi2, L, e2, eo, g2⟩
          by_cases hlt : i < xs.length
          · have ex : xs[i]? = some xs[i] := List.getElem?_eq_getElem hlt
            rw [drop_cons ex, lcR_cons] at e2
            obtain ⟨b, eb, e2⟩ := Res.eq_ok_of_bind e2
            refine .inr ⟨it.go i F2 H2 L.sf L.R.fh (by simpa using hlt), fun H' => ∃ F' acc zs, ScW T n F0 H0 F1 (wipe σ vs) ρ1 D F' H' acc ∧ lcR mt me (xs.drop (i + 1)) = .ok zs ∧ acc ++ zs = out ∧ Grow F H F' H',
              fun H' ⟨F', acc', zs', L', e', eo', g'⟩ => ⟨xs.length - (i + 1), by omega, F', acc', zs', rfl, hlt, L', e', eo', g'⟩, fun v H3 y => ?_⟩
            obtain ⟨F3, g3, r3⟩ := it.yld i F2 H2 (toD xs[i]) v H3 L.sf L.R.fh (by rw [List.getElem?_map, ex]; rfl) y
            refine ⟨xs[i], F0, H0, F3, L.R.grow g3, r3, fun σ4 R4 k4 => ⟨?_, xs[i], F0, H0, F3, R4, ?_⟩⟩
            · rw [wipe_eq (σ := wipe σ vs) (by rw [R4.len, L.R.len]) fun j hj => k4 j fun hm => hj (his j hm)]
              exact wipe_eq (by rw [wipe_length]) fun j hj => by rw [wipe_at, if_neg hj]
            · have keep : ∀ {F4 H4 : Hp}, Grow F2 H2 F4 H4 → ScW T n F0 H0 F1 (wipe σ vs) ρ1 D F4 H4 acc := fun {F4 H4} g4 => by
                obtain ⟨k, e1, rw1⟩ := L.ob
                exact ⟨L.R.grow g4, L.sf.trans g4.f, by rw [g4.fn D (by rw [e1]; exact T.nt D k)]; exact L.zf, z0, L.no, k, g4.h _ _ e1, T.mono g4.f rw1⟩
              cases et : mt xs[i] with
              | exc c i => rw [et] at eb; cases eb
              | stuck => rw [et] at eb; cases eb
              | ok b' =>
                rw [et] at eb
                cases eb
                intro F4 H4 g4
                cases b with
                | false => exact ⟨F4, acc, zs, keep (g3.trans g4), e2, eo, g2.trans (g3.trans g4)⟩
                | true =>
                  simp only [if_true] at e2
                  obtain ⟨y', ey, e2⟩ := Res.eq_ok_of_bind e2
                  obtain ⟨zs', ez, e2⟩ := Res.eq_ok_of_bind e2
                  cases e2
                  refine ⟨xs[i], F0, H0, F4, R4.grow g4, ?_⟩
                  cases em : me xs[i] with
                  | exc c i => rw [em] at ey; cases ey
                  | stuck => rw [em] at ey; cases ey
                  | ok y'' =>
                    rw [em] at ey
                    cases ey
                    intro u F5 H5 g5 r5
                    have L5 := keep ((g3.trans g4).trans g5)
                    obtain ⟨k, e1, rk⟩ := L5.ob
                    have hacc : T.bd (acc ++ y' :: zs') = true := by rw [eo]; exact hb
                    obtain ⟨i0, hp, hx⟩ := T.step L5.R.fh rk hacc r5
                    refine ⟨k, i0, e1, hp, fun k' hk' => ⟨F5, acc ++ [y'], zs', ⟨⟨L5.R.len, ⟨L5.R.base.f, fun b o q => ?_, fun b o q => ?_, L5.R.base.fn⟩, L5.R.sh, fun j d m => ?_, L5.R.inj⟩, L5.sf, L5.zf, z0, L5.no, k', upd_same, hx k' hk'⟩, ez, by rw [List.append_assoc]; exact eo, ?_⟩⟩
                    · rw [upd_ne (ne_of_none q z0)]; exact L5.R.base.h b o q
                    · rw [upd_ne (ne_of_none q L5.zf)]; exact L5.R.fh b o q
                    · obtain ⟨a, e6, c6, z6⟩ := L5.R.ow j d m
                      have hne : a ≠ D := fun q => L5.no j d m (by rw [e6, q])
                      exact ⟨a, e6, ⟨c6.1, by rw [upd_ne hne]; exact c6.2⟩, z6⟩
                    · have g6 := g2.trans ((g3.trans g4).trans g5)
                      have hD : H D = none := sub_free g.h nD
                      exact ⟨g6.f, fun b o q => by rw [upd_ne (ne_of_none q hD)]; exact g6.h b o q, fun b o q => by rw [upd_ne (ne_of_none q L5.zf)]; exact g6.fh b o q, g6.fn⟩
          · have e : i = xs.length := by omega
            subst e
            rw [List.drop_length] at e2
            cases e2
            rw [List.append_nil] at eo
            subst eo
            obtain ⟨k, e1, rk⟩ := L.ob
            exact .inl ⟨it.stop _ F2 H2 L.sf L.R.fh (by simp), p1 D F2 H2 k g2 L.zf (sub_free g.h nD) e1 rk⟩
      · rw [if_neg hb] at p1; exact p1.elim
end
section
variable {X : Cx} {W : WX} {ρ : Rs} {pos : Pos} {α β γ δ S τ Ω : Type} [Enc α] [Enc β] [Enc γ] [Enc δ]
/-- {elt for tg in iter if ..} -/
theorem XS.sc (S : SKd X.prog X.w) (T : SRel S X.K β) {elt tg iter : Expr} {ifs : List Expr} {scope : Scope} {is : List Nat} (own : List (Str × Nat)) (ks : List Nat) {mi : Res (List α)} {mt : α → Res Bool} {me : α → Res β} (ρ1 : Rs) (ρb : α → Rs) (hc : X.calm = true) (hu : X.A.units + 64 < cLine) (hN : X.N.Nodup) (hi : XI X W ρ tg iter mi)
    (ok : blkC X.N X.env.scope scope own = true) (hg : ∀ x (s : Shared) (H : Hp) (C : Addr) (cl : List (Str × Addr)) (fp : List Addr), XG (X.blk s H scope (compEnvC scope cl C X.env) fp) is ρ1 tg (toD x) (ρb x))
    (ht : ∀ x (s : Shared) (H : Hp) (C : Addr) (cl : List (Str × Addr)) (fp : List Addr), XTs (X.blk s H scope (compEnvC scope cl C X.env) fp) W0 (ρb x) ifs (mt x))
    (he : ∀ x (s : Shared) (H : Hp) (C : Addr) (cl : List (Str × Addr)) (fp : List Addr), XV (X.blk s H scope (compEnvC scope cl C X.env) fp) W0 (ρb x) elt (me x))
    (hρ : ρ1 = keepAt ρ ks := by rfl) (ho : okK ρ (own.map (·.2)) ks = true := by rfl) (his : (is.all fun j => (own.map (·.2)).contains j) = true := by rfl) (hs : ∀ x, foldedSetIterable iter X.env x = pure x := by intro _; rfl) :
    PE X (.SetComp elt [⟨tg, iter, ifs, 0⟩] scope pos) (rdSt T X.N.length W ρ (do
    let xs ← mi
    let ys ← lcR mt me xs
    bdL T.bd ys)) :=
  PE.imp (pe_scG S hc hu hN hi (blkOk_by ok) (fun s H C cl fp => PG.ex fun x => hg x s H C cl fp) (fun s H C cl fp => PTs.ex fun x => ht x s H C cl fp) (fun s H C cl fp => PE.ex fun x => he x s H C cl fp) hs) fun σ H Q h =>
    sc_read T (tg := tg) (fun j hj => by simpa [List.contains_iff_mem] using List.all_eq_true.mp his j hj) (fun p hp => by rw [hρ] at hp; exact ⟨keep_mem hp, keep_ne hp ho⟩) h
end
end Vs
end
section
set_option Elab.async false
set_option linter.all false
set_option maxRecDepth 100000
set_option maxHeartbeats 2000000
/-! Vs22: sets of ints, of tuples of ints. -/
namespace Vs
open Enc (toD)
open PySem PySem.Spec PyProof.Rows L2
/-! ### ints -/
def skI (P : Program) (w : World) : SKd P w where
  κ := (Int → Bool) × Nat
  ι := Int
  ob a k := SetO w a k.1 k.2
  z := (fun _ => false, 0)
  fresh H h := setO_new (setR_fresh w)
  pre _ v _ k i := v = .int i ∧ k.2 + 1 < scanBound
  nx v k i k' := k' = (fun j => k.1 j || decide (j = i), if k.1 i = true then k.2 else k.2 + 1)
  add {X pins σ H s D k i v u E Q} hP hw hc hu I hD r p q := by
    subst hw
    obtain ⟨rfl, room⟩ := p
    obtain ⟨tk, rfl⟩ := r
    have R := setO_get I hD
    refine setR_add R room fun h' sb new => ?_
    refine q _ _ rfl (I.write (e := D) (t' := s.toks + 1) (by rw [hD]; trivial) (.inl rfl) (fun b u hb hu => (sb.2 b hb).trans hu) ?_ (setO_new new))
    have ⟨o, _, _, _, ho, _⟩ := new
    exact ⟨o, ho⟩
def srI (P : Program) (w : World) (K : PySem.W.Frag) : SRel (skI P w) K Int where
  R _ k acc := k.1 = (fun j => decide (j ∈ acc)) ∧ k.2 ≤ acc.length
  bd := fun xs => decide (xs.length ≤ 4094)
  nt D k := ⟨by simp, fun xs e => by cases e⟩
  z _ := ⟨funext fun _ => by simp [skI], Nat.zero_le _⟩
  mono _ r := r
  step {F H k acc rest v x} sf r hb rx := by
    obtain ⟨S, n⟩ := k
    obtain ⟨r1, r2⟩ := r
    dsimp only at r1 r2
    subst r1
    obtain rfl := rx.int_of
    have hb := of_decide_eq_true hb
    rw [List.length_append, List.length_cons] at hb
    refine ⟨x, ⟨rfl, by unfold scanBound; dsimp only; omega⟩, ?_⟩
    rintro k' rfl
    refine ⟨funext fun j => ?_, ?_⟩
    · simp only [List.mem_append, List.mem_singleton, Bool.decide_or]
    · dsimp only
      rw [List.length_append, List.length_singleton]
      split <;> omega
/-! ### tuples of ints -/
class TI (α : Type) [Enc α] where
  is : α → List Int
  enc : ∀ a, toD a = .tuple ((is a).map PyData.int)
  inj : ∀ a b, is a = is b → a = b
instance : TI (Tup Int) := ⟨fun a => a.l, fun a => rfl, fun a b h => by cases a; cases b; exact congrArg Tup.mk h⟩
instance : TI (Int × Int) := ⟨fun a => [a.1, a.2], fun a => rfl, fun a b h => by cases a; cases b; cases h; rfl⟩
instance : TI (T3 Int Int Int) := ⟨fun a => [a.a, a.b, a.c], fun a => rfl, fun a b h => by cases a; cases b; cases h; rfl⟩
instance : TI (T4 Int Int Int Int) := ⟨fun a => [a.a, a.b, a.c, a.d], fun a => rfl, fun a b h => by cases a; cases b; cases h; rfl⟩
theorem rp_tup_ints {K : PySem.W.Frag} {F : Hp} {α : Type} [Enc α] [TI α] {v : V} {x : α} (r : Rp K F v (toD x)) : ∃ a, v = .ref a ∧ TpA K F a ((TI.is x).map V.int) := by
  rw [TI.enc] at r
  obtain ⟨a, xs, e, h1, h2⟩ := r.tup_at
  have q : xs = (TI.is x).map V.int := ints_of h2
  rw [q] at h1
  exact ⟨a, e, h1⟩
theorem rp_of_ints {K : PySem.W.Frag} {F : Hp} {α : Type} [Enc α] [TI α] {a : Addr} {x : α} (h : TpA K F a ((TI.is x).map V.int)) : Rp K F (.ref a) (toD x) := by
  rw [TI.enc]
  exact .tup h (rp_ints _)
section
variable {X : Cx} {pins : List (Addr × Obj)} {σ : St} {H : Hp} {s : Shared}
theorem addT_ok {E : Value → Shared → Prop} {D b : Addr} {L : List (Addr × List Int)} {k : List Int} {Q : Value → Shared → Prop} (hu : X.A.units + 64 < cLine) (I : Inv X pins σ H s) (hD : H D = some (SetTO X.prog X.w D L)) (ht : ∀ p ∈ L, SqT X.K H p.1 (p.2.map V.int)) (hb : SqT X.K H b (k.map V.int)) (hl : L.length + 1 < 64)
    (h : ∀ L' s', ((k ∈ L.map (·.2) ∧ L' = L) ∨ (k ∉ L.map (·.2) ∧ L'.Perm ((b, k) :: L))) → Inv X pins σ (upd H D (SetTO X.prog X.w D L')) s' → Q .none s') : wpAny (model X.prog X.w) X.A (call (.builtin "set.add") [.ref D, .ref b]) Q E s := by
  have R0 : SetT0 X.prog X.w s.heap D L := (I.hok D _ hD).1
  obtain ⟨es, ep, t, R⟩ := R0.full fun p hp => I.isT (ht p hp)
  have hx := I.isT hb
  have hT : s.TypeIs (.ref D) "set" := by
    obtain ⟨o, ho, hex, _⟩ := R.ob
    exact ⟨o, ho, hex.1⟩
  refine wpAny_call_entry F.slot_set_add hT F.entry_set_add ?_ (F.args_set_add_2 _ _)
  unfold Builtin.«set.add» Builtin.Frozenset.oneOther
  simp only [List.isEmpty_nil, bind_assoc]
  unfold Builtin.Frozenset.addrOf setAdd
  refine wpAny_bind (wpAny_pure ?_)
  try dsimp only
  refine wpAny_bind (wpAny_pure ?_)
  try dsimp only
  refine wpAny_bind (wpAny_holding ?_)
  have hu1 : X.A.in1.units < cLine := by
    have : X.A.in1.units ≤ X.A.units + 63 := by unfold Around.in1; first | (simp only []; omega) | simp
    omega
  refine wpAny_bind (wpAny_pyHash_tuple hu1 hx ?_)
  have R1 : SetTR X.prog X.w ({ s with toks := s.toks + (k.length + 1) } : Shared).heap D L es ep t := R
  refine add_at (s := { s with toks := s.toks + (k.length + 1) }) R1 hx hu1 hl fun b' h' L' es' ep' t' sb R' c1 c2 => ?_
  show wpAny _ _ (ret Value.none) _ _ _
  refine wpAny_pure ⟨_, rfl, h L' _ ?_ (I.write (e := D) (t' := s.toks + (k.length + 1)) (by rw [hD]; trivial) (.inl rfl) (fun b u hb hu => (sb.2 b hb).trans hu) ?_ (setTO_new R'.t0))⟩
  · by_cases hm : k ∈ L.map (·.2)
    · exact .inl ⟨hm, c1 hm⟩
    · exact .inr ⟨hm, c2 hm⟩
  · obtain ⟨o, ho, _⟩ := R'.ob
    exact ⟨o, ho⟩
end
def skT (P : Program) (w : World) : SKd P w where
  κ := List (Addr × List Int)
  ι := Addr × List Int
  ob a L := SetTO P w a L
  z := []
  fresh H h := setTO_new (setTR_fresh (P := P) (Heap.get?_push_size _ rfl)).t0
  pre K v H L i := v = .ref i.1 ∧ SqT K H i.1 (i.2.map V.int) ∧ (∀ p ∈ L, SqT K H p.1 (p.2.map V.int)) ∧ L.length + 1 < 64
  nx v L i L' := (i.2 ∈ L.map (·.2) ∧ L' = L) ∨ (i.2 ∉ L.map (·.2) ∧ L'.Perm (i :: L))
  add {X pins σ H s D k i v u E Q} hP hw hc hu I hD r p q := by
    subst hP hw
    obtain ⟨rfl, hb, ht, hl⟩ := p
    obtain rfl : u = Value.ref i.1 := r
    exact addT_ok hu I hD ht hb hl fun L' s' c I' => q L' s' c I'
structure TRel (K : PySem.W.Frag) {α : Type} [Enc α] [TI α] (F : Hp) (L : List (Addr × List Int)) (acc : List α) : Prop where
  tp : ∀ p ∈ L, TpA K F p.1 (p.2.map V.int)
  sub : ∀ p ∈ L, ∃ x ∈ acc, p.2 = TI.is x
  all : ∀ x ∈ acc, TI.is x ∈ L.map (·.2)
  nd : (L.map (·.2)).Nodup
theorem TRel.kinds {K : PySem.W.Frag} {α : Type} [Enc α] [TI α] [DecidableEq α] {F : Hp} {L : List (Addr × List Int)} {acc : List α} (r : TRel K F L acc) : L.length ≤ (dedup acc).length := by
  have := nodup_len_le (l := L.map (·.2)) (ys := (dedup acc).map TI.is) r.nd fun k hk => by
    obtain ⟨p, hp, rfl⟩ := List.mem_map.mp hk
    obtain ⟨x, hx, e⟩ := r.sub p hp
    exact List.mem_map.mpr ⟨x, mem_dedup.mpr hx, e.symm⟩
  rwa [List.length_map, List.length_map] at this
theorem TRel.step {K : PySem.W.Frag} {α : Type} [Enc α] [TI α] {F : Hp} {L L' : List (Addr × List Int)} {acc : List α} {x : α} {b : Addr} (r : TRel K F L acc) (hbt : TpA K F b ((TI.is x).map V.int))
    (h : (TI.is x ∈ L.map (·.2) ∧ L' = L) ∨ (TI.is x ∉ L.map (·.2) ∧ L'.Perm ((b, TI.is x) :: L))) : TRel K F L' (acc ++ [x]) := by
  obtain ⟨r1, r2, r3, r4⟩ := r
  rcases h with ⟨hm, rfl⟩ | ⟨hm, pm⟩
  · refine ⟨r1, fun p h => ?_, fun y hy => ?_, r4⟩
    · obtain ⟨y, hy, e⟩ := r2 p h
      exact ⟨y, List.mem_append_left _ hy, e⟩
    · rcases List.mem_append.mp hy with h | h
      · exact r3 y h
      · rw [List.mem_singleton.mp h]; exact hm
  · refine ⟨fun p h => ?_, fun p h => ?_, fun y hy => ?_, ?_⟩
    · rcases List.mem_cons.mp (pm.mem_iff.mp h) with e | h
      · rw [e]; exact hbt
      · exact r1 p h
    · rcases List.mem_cons.mp (pm.mem_iff.mp h) with e | h
      · exact ⟨x, List.mem_append_right _ (List.mem_singleton.mpr rfl), by rw [e]⟩
      · obtain ⟨y, hy, e⟩ := r2 p h
        exact ⟨y, List.mem_append_left _ hy, e⟩
    · rw [(pm.map (·.2)).mem_iff, List.map_cons]
      rcases List.mem_append.mp hy with h | h
      · exact List.mem_cons_of_mem _ (r3 y h)
      · rw [List.mem_singleton.mp h]; exact List.mem_cons_self
    · exact (pm.map (·.2)).nodup_iff.mpr (List.nodup_cons.mpr ⟨hm, r4⟩)
def srT (P : Program) (w : World) (K : PySem.W.Frag) (α : Type) [Enc α] [TI α] [DecidableEq α] : SRel (skT P w) K α where
  R F L acc := TRel K F L acc
  bd := fun xs => decide ((dedup xs).length ≤ 62)
  nt D k := ⟨by simp, fun xs e => by cases e⟩
  z F := TRel.mk (L := []) (fun p h => by cases h) (fun p h => by cases h) (fun p h => by cases h) List.nodup_nil
  mono sf r := ⟨fun p h => (r.tp p h).sub sf, r.sub, r.all, r.nd⟩
  step {F H L acc rest v x} sf r hb rx := by
    obtain ⟨b, rfl, hbt⟩ := rp_tup_ints rx
    have hb := of_decide_eq_true hb
    have := r.kinds
    have := dedup_sub (xs := acc) (ys := acc ++ x :: rest) fun y hy => List.mem_append_left _ hy
    exact ⟨(b, TI.is x), ⟨rfl, sub_seqT sf hbt.sq, fun p h => sub_seqT sf (r.tp p h).sq, by omega⟩, fun L' c => r.step hbt c⟩
/-! ### sorted of such a set -/
section
variable {P : Program} {w : World} {A : Around} {E : Value → Shared → Prop} {s : Shared}
/-- list.sort of a list of one, or of none -/
theorem list_sort_short {a : Addr} {vs : List Value} {n : Nat} {Q : PySem.Fin → Shared → Prop} (ho : s.heap.get? a = some (seqObj "list" vs.toArray n)) (hs : vs.length < 2)
    (h : Q (.done (.ret .none)) { s with heap := sortedHeap s.heap a vs vs.toArray }) : wpAny (model P w) A (Builtin.«list.sort» ⟨[.ref a], []⟩) Q E s := by
  rw [PySem.W.plain_is_rev, list_sort_rev]
  have ha : a < s.heap.objs.size := Heap.lt_size ho
  have hL : vs.length ≤ sizeLine := by rw [sizeLine_eq]; omega
  refine wpAny_bind (listItems_at ho rfl ?_)
  refine wpAny_bind (listUpdate_at ho rfl ?_ (by rw [List.size_toArray]; exact hL) (Nat.zero_le _))
  obtain ⟨e1, ho1⟩ : ∃ e1, (s.heap.update a (Obj.mapSeq fun _ => #[])).get? a = some (seqObj "list" #[] e1) := ⟨_, get?_update_seq ho (fun _ => #[])⟩
  refine wpAny_bind (seqEpoch_at ho1 rfl (wpAny_bind (wpAny_newTuple ?_ (by show vs.length ≤ _; exact hL))))
  refine wpAny_bind (wpAny_newList ?_ (Nat.zero_le _))
  refine wpAny_holding ?_
  have ho6 : (((s.heap.update a (Obj.mapSeq fun _ => #[])).push (seqObj "tuple" vs.toArray 0)).push (seqObj "list" #[] 0)).get? a = some (seqObj "list" #[] e1) := by
    rw [Heap.get?_push_ne _ _ _ (by rw [size_push', Heap.size_update]; exact Nat.ne_of_lt (Nat.lt_succ_of_lt ha)), Heap.get?_push_ne _ _ _ (by rw [Heap.size_update]; exact Nat.ne_of_lt ha)]
    exact ho1
  show wpAny (model P w) A _ Q E { s with heap := ((s.heap.update a (Obj.mapSeq fun _ => #[])).push (seqObj "tuple" vs.toArray 0)).push (seqObj "list" #[] 0) }
  dsimp only
  simp only [Bool.false_eq_true, if_false]
  have hl2 : vs.toArray.size < 2 := by simpa using hs
  rw [if_pos hl2, if_pos hl2]
  refine wpAny_bind (wpAny_pure ?_)
  rw [StateT.run_pure]
  refine wpAny_bind (wpAny_pure ?_)
  dsimp only
  have out : (arrOf (SortSt.mk' general' (vs.toArray.zip vs.toArray) #[] 7 none)).map (·.2) = vs.toArray := by
    show (vs.toArray.zip vs.toArray).map (·.2) = vs.toArray
    apply Array.ext'
    rw [Array.toList_map, Array.toList_zip]
    simp [List.map_snd_zip]
  refine wpAny_bind (seqEpoch_at ho6 rfl ?_)
  first
    | rw [out]
    | skip
  refine wpAny_bind (listUpdate_at ho6 rfl ?_ (Nat.zero_le _) (by rw [List.size_toArray]; omega))
  simp only [bne_self_eq_false, Bool.false_eq_true, if_false]
  exact wpAny_pure h
end
end Vs
end
section
set_option Elab.async false
set_option linter.all false
set_option maxRecDepth 100000
set_option maxHeartbeats 2000000
/-! Vs23: sorted, len of sets of tuples; the sets in expressions. -/
namespace Vs
open Enc (toD)
open PySem PySem.Spec PyProof.Rows L2
abbrev encQ : Addr × List Int → PyData := fun p => .tuple (p.2.map PyData.int)
section
variable {P : Program} {w : World} {A : Around} {E : Value → Shared → Prop} {s : Shared}
theorem reads_isT {h : Heap} {k : List Int} {b : Addr} (x : IsT P w h k b) : ∃ as, Reads h (.ref b) (.tuple (k.map PyData.int)) as := by
  obtain ⟨o, items, n, ho, hc, hd, hi⟩ := x
  have q : ∀ {k : List Int} {vs : List Value}, ItemsAre (intKind P w) k vs → ∃ as, ReadsAll h vs (k.map PyData.int) as := by
    intro k vs hi
    induction hi with
    | nil => exact ⟨_, .nil⟩
    | @cons k0 v ks vs h1 _ ih =>
      obtain ⟨t, rfl⟩ := Value.isInt_shape h1
      obtain ⟨as, r⟩ := ih
      exact ⟨_, .cons (.int _ _) r⟩
  obtain ⟨as, r⟩ := q hi
  exact ⟨_, .tuple ho hc hd r⟩
theorem sorted_setD {a : Addr} {L : List (Addr × List Int)} {es : Array (Int × Value)} {ep : Nat} {t : SetTable} {Q : Value → Shared → Prop} (R : SetTR P w s.heap a L es ep t) (hh : A.handled = none) (hu : A.units + 64 < cLine)
    (hk : (∀ p ∈ L, p.2 ≠ []) ∨ L.length ≤ 1)
    (hQ : ∀ s' p (out : Array Value) (c : Nat) (L' : List (Addr × List Int)), (∀ b o, s.heap.get? b = some o → s'.heap.get? b = some o) → s'.gens = s.gens → s'.os = s.os → s.heap.objs.size ≤ p →
      s'.heap.get? p = some (seqObj "list" out c) → out.toList = L'.map (fun q => Value.ref q.1) → L'.Perm L → L'.Pairwise (fun q r => PySem.W.dataLt (encQ r) (encQ q) = false) → Q (.ref p) s') :
    wpAny (model P w) A (call (.builtin "sorted") [.ref a]) Q E s := by
  obtain ⟨o, ho, hex, hd⟩ := R.ob
  have hfew := R.few
  refine Calls.call_function_entry kind_sorted plain_sorted entry_sorted (args_sorted1 _) ?_
  unfold Builtin.«sorted»
  refine wpAny_bind (m := checkCount "sorted" 1 1 _) (wpAny_pure ?_)
  have hsz := R.size
  refine wpAny_bind (collect_set (A := A.in1) hh ⟨o, ho, hex.1, hd⟩ R.fits (by unfold scanBound; omega) R.tab.ris R.led fun s1 vs k1 hz g1 o1 pm => ?_)
  have hes : es.toList.map (·.2) = L.map fun q => Value.ref q.1 := by
    rw [R.rows]
    unfold rowsOf
    rw [List.map_map] <;> rfl
  rw [hes] at pm
  -- the rows in the order of the walk
  have one : ∀ q ∈ L, ∀ r ∈ L, q.1 = r.1 → q = r := fun q hq r hr e => by
    have a1 := R.tup q hq
    rw [e] at a1
    exact Prod.ext e (a1.inj (R.tup r hr))
  obtain ⟨L1, e1, p1⟩ : ∃ L1 : List (Addr × List Int), vs = L1.map (fun q => Value.ref q.1) ∧ L1.Perm L := by
    have ord : ∀ us : List Value, (∀ v ∈ us, ∃ q ∈ L, v = Value.ref q.1) → ∃ L1 : List (Addr × List Int), us = L1.map (fun q => Value.ref q.1) ∧ ∀ q ∈ L1, q ∈ L := by
      intro us
      induction us with
      | nil => exact fun _ => ⟨[], rfl, fun q hq => nomatch hq⟩
      | cons v us ih =>
        intro hv
        obtain ⟨q, hq, rfl⟩ := hv v List.mem_cons_self
        obtain ⟨L1, rfl, hs⟩ := ih fun u hu => hv u (List.mem_cons_of_mem _ hu)
        exact ⟨q :: L1, rfl, fun r hr => (List.mem_cons.mp hr).elim (fun z => z ▸ hq) (hs r)⟩
    obtain ⟨L1, e1, hs⟩ := ord vs fun v hv => by
      obtain ⟨q, hq, e⟩ := List.mem_map.mp (pm.mem_iff.mp hv)
      exact ⟨q, hq, e.symm⟩
    refine ⟨L1, e1, ?_⟩
    have nL : L.Nodup := nodup_of_map R.nd
    have nref : (L.map fun q => Value.ref q.1).Nodup := List.pairwise_map.mpr (List.Pairwise.imp_of_mem (fun {q r} hq hr hne e => by
      injection e with e
      exact hne (one q hq r hr e)) nL)
    have n1 : L1.Nodup := nodup_of_map (f := fun q => Value.ref q.1) (by rw [← e1]; exact pm.nodup_iff.mpr nref)
    refine (List.perm_ext_iff_of_nodup n1 nL).mpr fun q => ⟨hs q, fun hq => ?_⟩
    have hm : Value.ref q.1 ∈ L1.map (fun q => Value.ref q.1) := by rw [← e1]; exact pm.mem_iff.mpr (List.mem_map.mpr ⟨q, hq, rfl⟩)
    obtain ⟨r, hr, e⟩ := List.mem_map.mp hm
    injection e with e
    rw [← one r (hs r hr) q hq e]
    exact hr
  have hvl : vs.length < 64 := by rw [e1, List.length_map, p1.length_eq]; exact hfew
  have hsl : vs.length ≤ sizeLine := by rw [sizeLine_eq]; omega
  refine wpAny_bind (wpAny_newList ?_ hsl)
  have hoL : (s1.heap.push (seqObj "list" vs.toArray 0)).get? s1.heap.objs.size = some (seqObj "list" vs.toArray 0) := Heap.get?_push_size _ rfl
  have fin : ∀ (L' : List (Addr × List Int)) (out : Array Value), out.toList = L'.map (fun q => Value.ref q.1) → L'.Perm L → L'.Pairwise (fun q r => PySem.W.dataLt (encQ r) (encQ q) = false) →
      Q (.ref s1.heap.objs.size) { s1 with heap := sortedHeap (s1.heap.push (seqObj "list" vs.toArray 0)) s1.heap.objs.size vs out } := fun L' out e' pL pw => by
    obtain ⟨c, hc⟩ := sortedHeap_at (vs := vs) (out := out) hoL
    refine hQ _ s1.heap.objs.size out c L' (fun b u e => ?_) g1 o1 hz hc e' pL pw
    have q := k1 b u e
    have hlt := Heap.lt_size q
    show (sortedHeap (s1.heap.push (seqObj "list" vs.toArray 0)) s1.heap.objs.size vs out).get? b = some u
    rw [sortedHeap_old (Nat.ne_of_lt hlt) (by rw [size_push']; exact Nat.lt_succ_of_lt hlt)]
    exact Heap.get?_push_of_some _ q
  have body : ∀ E' : Value → Shared → Prop, wpAny (model P w) A.in1.in1 (Builtin.«list.sort» ⟨[.ref s1.heap.objs.size], []⟩) (fun f s' => f = .done (.ret .none) ∧ Q (.ref s1.heap.objs.size) s') E' { s1 with heap := s1.heap.push (seqObj "list" vs.toArray 0) } := fun E' => by
    rcases hk with hk | hk
    · have hR : PySem.W.EachIs (fun u (p : Addr × List Int) => u = Value.ref p.1 ∧ p ∈ L1) vs L1 := by
        rw [e1]
        have : ∀ M : List (Addr × List Int), (∀ p ∈ M, p ∈ L1) → PySem.W.EachIs (fun u (p : Addr × List Int) => u = Value.ref p.1 ∧ p ∈ L1) (M.map fun q => Value.ref q.1) M := by
          intro M
          induction M with
          | nil => exact fun _ => .nil
          | cons p M ih => exact fun h => .cons ⟨rfl, h p List.mem_cons_self⟩ (ih fun q hq => h q (List.mem_cons_of_mem _ hq))
        exact this L1 fun p hp => hp
      have old : ∀ b u, s.heap.get? b = some u → (PySem.W.sortingHeap (s1.heap.push (seqObj "list" vs.toArray 0)) s1.heap.objs.size vs).get? b = some u := fun b u e =>
        PySem.W.sortingHeap_old (Nat.ne_of_lt (Heap.lt_size (k1 b u e))) (Heap.get?_push_of_some _ (k1 b u e))
      have hr : PySem.W.EachIs (fun u p => ∃ as, Reads (PySem.W.sortingHeap (s1.heap.push (seqObj "list" vs.toArray 0)) s1.heap.objs.size vs) u (encQ p) as) vs L1 := hR.mono fun u p ⟨e, hp⟩ => by
        rw [e]
        exact reads_isT (P := P) (w := w) (isT_keep (R.tup p (p1.mem_iff.mp hp)) old)
      have al : PySem.W.AllAlike (L1.map encQ) := PySem.W.AllAlike.of fun b b' => by
        show PySem.W.alike (.tuple (b.2.map PyData.int)) (.tuple (b'.2.map PyData.int)) = true
        rw [PySem.W.alike]; exact PySem.W.alike_ints _ _
      refine PySem.W.list_sort_vals (κ := PySem.W.dataKind (PySem.W.sortingHeap (s1.heap.push (seqObj "list" vs.toArray 0)) s1.heap.objs.size vs) (L1.map encQ)) (s := { s1 with heap := s1.heap.push (seqObj "list" vs.toArray 0) }) hoL
        (PySem.W.SortsAt.data (s := { s1 with heap := PySem.W.sortingHeap (s1.heap.push (seqObj "list" vs.toArray 0)) s1.heap.objs.size vs }) (PySem.W.each_map (R := fun v d => ∃ as, Reads (PySem.W.sortingHeap (s1.heap.push (seqObj "list" vs.toArray 0)) s1.heap.objs.size vs) v d as) encQ hr) al (.inl fun d hd => ?_) (fun d hd => ?_)) hsl ⟨rfl, ?_⟩
      · obtain ⟨p, hp, rfl⟩ := List.mem_map.mp hd
        have ne := hk p (p1.mem_iff.mp hp)
        cases e : p.2 with
        | nil => exact absurd e ne
        | cons x r => exact ⟨.int x, r.map PyData.int, by show PyData.tuple (p.2.map PyData.int) = _; rw [e]; rfl⟩
      · obtain ⟨p, hp, rfl⟩ := List.mem_map.mp hd
        show A.in1.in1.units + (PyData.tuple (p.2.map PyData.int)).depth < cLine
        rw [PyData.depth, PySem.W.depth_ints]
        have : A.in1.in1.units ≤ A.units + 60 := by unfold Around.in1; first | (simp only []; omega) | simp
        omega
      · have ev := PySem.W.sortVals_data (h' := PySem.W.sortingHeap (s1.heap.push (seqObj "list" vs.toArray 0)) s1.heap.objs.size vs) false hR hr al
        have le := List.pairwise_mergeSort (le := PySem.W.dataLe false encQ) (fun a b c h1 h2 => ?_) (fun a b => ?_) L1
        · refine fin (L1.mergeSort (PySem.W.dataLe false encQ)) _ ?_ ((List.mergeSort_perm _ _).trans p1) (le.imp fun {q r} h => ?_)
          · rw [List.toList_toArray]
            have : ∀ {us : List Value} {M : List (Addr × List Int)}, PySem.W.EachIs (fun u (p : Addr × List Int) => u = Value.ref p.1 ∧ p ∈ L1) us M → us = M.map fun q => Value.ref q.1 := by
              intro us M h
              induction h with
              | nil => rfl
              | cons h1 _ ih => rw [h1.1, ih]; rfl
            exact this ev
          · rw [PySem.W.dataLe_eq] at h
            simpa using h
        · rw [PySem.W.dataLe_eq] at h1 h2 ⊢
          have q1 : PySem.W.dataLt (encQ b) (encQ a) = false := by simpa using h1
          have q2 : PySem.W.dataLt (encQ c) (encQ b) = false := by simpa using h2
          have e : ∀ x y : Addr × List Int, PySem.W.dataLt (encQ x) (encQ y) = Ord1.lt (Tup.mk x.2) (Tup.mk y.2) := fun x y => PyLt.ok (α := Tup Int) ⟨x.2⟩ ⟨y.2⟩
          rw [e] at q1 q2
          have q3 := le_tr q1 q2
          rw [← e] at q3
          simpa using q3
        · rw [PySem.W.dataLe_eq]
          have e : ∀ x y : Addr × List Int, PySem.W.dataLt (encQ x) (encQ y) = Ord1.lt (Tup.mk x.2) (Tup.mk y.2) := fun x y => PyLt.ok (α := Tup Int) ⟨x.2⟩ ⟨y.2⟩
          cases q : PySem.W.dataLt (encQ b) (encQ a) with
          | false => simp [q]
          | true =>
            rw [e] at q
            have := OrdT.asym q
            rw [← e] at this
            simp [this]
    · refine list_sort_short (s := { s1 with heap := s1.heap.push (seqObj "list" vs.toArray 0) }) hoL (by rw [e1, List.length_map, p1.length_eq]; omega) ⟨rfl, fin L1 _ (by rw [List.toList_toArray, e1]) p1 ?_⟩
      have : L1.length ≤ 1 := by rw [p1.length_eq]; exact hk
      match L1, this with
      | [], _ => exact .nil
      | [x], _ => exact List.pairwise_singleton _ _
  refine wpAny_bind (wpAny_holding (wpAny_call_entry slot_list_sort ⟨_, hoL, rfl⟩ entry_list_sort ?_ (args_list_sort _)))
  refine wpAny_mono (body _) (fun f s' hf => ?_) fun _ _ e => e
  obtain ⟨rfl, hq⟩ := hf
  exact ⟨_, rfl, wpAny_pure ⟨_, rfl, hq⟩⟩
end
end Vs
end
section
set_option Elab.async false
set_option linter.all false
set_option maxRecDepth 100000
set_option maxHeartbeats 2000000
/-! Vs24: sets of tuples in expressions. -/
namespace Vs
open Enc (toD)
open PySem PySem.Spec PyProof.Rows L2
def setT {α : Type} [DecidableEq α] (xs : List α) : Res (List α) := bdL (fun xs => decide ((dedup xs).length ≤ 62)) xs
theorem setT_ok {α : Type} [DecidableEq α] {xs : List α} (h : (dedup xs).length ≤ 62) : setT xs = .ok xs := if_pos (decide_eq_true h)
theorem bdL_no {α : Type} {n : List α → Bool} {xs : List α} {c : Str} {i : Int} : bdL n xs ≠ .exc c i := by unfold bdL; split <;> intro h <;> cases h
theorem bdL_setI (xs : List Int) : bdL (fun xs => decide (xs.length ≤ 4094)) xs = setI xs := by
  unfold bdL setI
  by_cases h : xs.length ≤ 4094
  · rw [if_pos (decide_eq_true h), if_pos (by omega)]
  · rw [if_neg (fun q => h (of_decide_eq_true q)), if_neg (by omega)]
/-- which lists of tuples have a tuple without items only where it is their only kind -/
class TIo (α : Type) [Enc α] [TI α] [Ord1 α] : Prop where
  ne : ∀ xs : List α, Ord1.sb xs = true → ∀ x ∈ xs, TI.is x ≠ []
instance : TIo (Tup Int) := ⟨fun xs h x hx e => by
  have q := List.all_eq_true.mp h x hx
  have e : x.l = [] := e
  rw [e] at q; cases q⟩
instance : TIo (Int × Int) := ⟨fun _ _ _ _ e => by cases e⟩
instance : TIo (T3 Int Int Int) := ⟨fun _ _ _ _ e => by cases e⟩
instance : TIo (T4 Int Int Int Int) := ⟨fun _ _ _ _ e => by cases e⟩
section
variable {K : PySem.W.Frag} {α : Type} [Enc α] [TI α] [DecidableEq α] {F : Hp} {L : List (Addr × List Int)} {acc : List α}
theorem TRel.row (r : TRel K F L acc) : ∀ {L' : List (Addr × List Int)}, (∀ p ∈ L', p ∈ L) → ∃ ys : List α, L'.map (·.2) = ys.map TI.is ∧ (∀ y ∈ ys, y ∈ acc) ∧ RpAll K F (L'.map fun q => V.ref q.1) (ys.map toD)
  | [], _ => ⟨[], rfl, (fun _ h => nomatch h), RpAll.nil⟩
  | p :: L', h => by
    obtain ⟨ys, e1, e2, e3⟩ := r.row (L' := L') fun q hq => h q (List.mem_cons_of_mem _ hq)
    obtain ⟨x, hx, e⟩ := r.sub p (h p List.mem_cons_self)
    refine ⟨x :: ys, by rw [List.map_cons, List.map_cons, e1, e], fun y hy => (List.mem_cons.mp hy).elim (fun z => z ▸ hx) (e2 y), .cons ?_ e3⟩
    have := r.tp p (h p List.mem_cons_self)
    rw [e] at this
    exact rp_of_ints this
theorem TRel.rows (r : TRel K F L acc) {L' : List (Addr × List Int)} (nd : (L.map (·.2)).Nodup) (pm : L'.Perm L) : ∃ ys : List α, L'.map (·.2) = ys.map TI.is ∧ ys.Perm (dedup acc) ∧ RpAll K F (L'.map fun q => V.ref q.1) (ys.map toD) := by
  obtain ⟨ys, e1, e2, e3⟩ := r.row (L' := L') fun p h => pm.mem_iff.mp h
  refine ⟨ys, e1, ?_, e3⟩
  have n1 : (ys.map TI.is).Nodup := by rw [← e1]; exact (pm.map (·.2)).nodup_iff.mpr nd
  refine (List.perm_ext_iff_of_nodup (nodup_of_map n1) (nodup_dedup acc)).mpr fun x => ⟨fun h => mem_dedup.mpr (e2 x h), fun h => ?_⟩
  have q := r.all x (mem_dedup.mp h)
  have q2 : TI.is x ∈ L'.map (·.2) := (pm.map (·.2)).mem_iff.mpr q
  rw [e1] at q2
  obtain ⟨y, hy, e⟩ := List.mem_map.mp q2
  rw [← TI.inj _ _ e]; exact hy
theorem TRel.count (r : TRel K F L acc) (nd : (L.map (·.2)).Nodup) : L.length = (dedup acc).length := by
  obtain ⟨ys, e1, e2, _⟩ := r.rows nd (.refl _)
  have q := congrArg List.length e1
  rw [List.length_map, List.length_map] at q
  rw [q, e2.length_eq]
end
section
variable {X : Cx} {W : WX} {ρ : Rs} {pos : Pos} {α β γ δ S τ Ω : Type} [Enc α] [Enc β] [Enc γ] [Enc δ]
/-- e gives a set of these tuples -/
abbrev XUT (X : Cx) (W : WX) (ρ : Rs) [TI α] [DecidableEq α] (e : Expr) (m : Res (List α)) : Prop := PE X e (rdSt (srT X.prog X.w X.K α) X.N.length W ρ m)
theorem XU.sc {elt tg iter : Expr} {ifs : List Expr} {scope : Scope} {is : List Nat} (own : List (Str × Nat)) (ks : List Nat) {mi : Res (List α)} {mt : α → Res Bool} {me : α → Res Int} (ρ1 : Rs) (ρb : α → Rs) (hc : X.calm = true) (hu : X.A.units + 64 < cLine) (hN : X.N.Nodup) (hi : XI X W ρ tg iter mi)
    (ok : blkC X.N X.env.scope scope own = true) (hg : ∀ x (s : Shared) (H : Hp) (C : Addr) (cl : List (Str × Addr)) (fp : List Addr), XG (X.blk s H scope (compEnvC scope cl C X.env) fp) is ρ1 tg (toD x) (ρb x))
    (ht : ∀ x (s : Shared) (H : Hp) (C : Addr) (cl : List (Str × Addr)) (fp : List Addr), XTs (X.blk s H scope (compEnvC scope cl C X.env) fp) W0 (ρb x) ifs (mt x))
    (he : ∀ x (s : Shared) (H : Hp) (C : Addr) (cl : List (Str × Addr)) (fp : List Addr), XV (X.blk s H scope (compEnvC scope cl C X.env) fp) W0 (ρb x) elt (me x))
    (hρ : ρ1 = keepAt ρ ks := by rfl) (ho : okK ρ (own.map (·.2)) ks = true := by rfl) (his : (is.all fun j => (own.map (·.2)).contains j) = true := by rfl) (hs : ∀ x, foldedSetIterable iter X.env x = pure x := by intro _; rfl) :
    XU X W ρ (.SetComp elt [⟨tg, iter, ifs, 0⟩] scope pos) (do
    let xs ← mi
    let ys ← lcR mt me xs
    setI ys) :=
  PE.imp (XS.sc (skI X.prog X.w) (srI X.prog X.w X.K) own ks ρ1 ρb hc hu hN hi ok hg ht he hρ ho his hs) fun σ H Q ⟨F0, H0, F, R, p⟩ => ⟨F0, H0, F, R, by
    have e : (mi >>= fun xs => lcR mt me xs >>= fun ys => bdL (fun xs => decide (xs.length ≤ 4094)) ys) = (mi >>= fun xs => lcR mt me xs >>= fun ys => setI ys) := by simp only [bdL_setI]
    show PostSt (srI X.prog X.w X.K) W F H (mi >>= fun xs => lcR mt me xs >>= fun ys => bdL (fun xs => decide (xs.length ≤ 4094)) ys) Q
    rw [e]
    have p : PostU X.K X.w W F H (mi >>= fun xs => lcR mt me xs >>= fun ys => setI ys) Q := p
    cases q : (mi >>= fun xs => lcR mt me xs >>= fun ys => setI ys) with
    | exc c i => rw [q] at p; exact p
    | stuck => rw [q] at p; exact p
    | ok xs =>
      rw [q] at p
      intro a F' H' k g fa na ha rr
      obtain ⟨S, c⟩ := k
      obtain ⟨r1, r2⟩ := rr
      dsimp only at r1
      subst r1
      exact p a F' H' c g fa na ha⟩
theorem XUT.sc [TI β] [DecidableEq β] {elt tg iter : Expr} {ifs : List Expr} {scope : Scope} {is : List Nat} (own : List (Str × Nat)) (ks : List Nat) {mi : Res (List α)} {mt : α → Res Bool} {me : α → Res β} (ρ1 : Rs) (ρb : α → Rs) (hc : X.calm = true) (hu : X.A.units + 64 < cLine) (hN : X.N.Nodup) (hi : XI X W ρ tg iter mi)
    (ok : blkC X.N X.env.scope scope own = true) (hg : ∀ x (s : Shared) (H : Hp) (C : Addr) (cl : List (Str × Addr)) (fp : List Addr), XG (X.blk s H scope (compEnvC scope cl C X.env) fp) is ρ1 tg (toD x) (ρb x))
    (ht : ∀ x (s : Shared) (H : Hp) (C : Addr) (cl : List (Str × Addr)) (fp : List Addr), XTs (X.blk s H scope (compEnvC scope cl C X.env) fp) W0 (ρb x) ifs (mt x))
    (he : ∀ x (s : Shared) (H : Hp) (C : Addr) (cl : List (Str × Addr)) (fp : List Addr), XV (X.blk s H scope (compEnvC scope cl C X.env) fp) W0 (ρb x) elt (me x))
    (hρ : ρ1 = keepAt ρ ks := by rfl) (ho : okK ρ (own.map (·.2)) ks = true := by rfl) (his : (is.all fun j => (own.map (·.2)).contains j) = true := by rfl) (hs : ∀ x, foldedSetIterable iter X.env x = pure x := by intro _; rfl) :
    XUT X W ρ (.SetComp elt [⟨tg, iter, ifs, 0⟩] scope pos) (do
    let xs ← mi
    let ys ← lcR mt me xs
    setT ys) := XS.sc (skT X.prog X.w) (srT X.prog X.w X.K β) own ks ρ1 ρb hc hu hN hi ok hg ht he hρ ho his hs
theorem tup_rows [TI α] {K : PySem.W.Frag} {F : Hp} : ∀ {vs : List V} {xs : List α}, RpAll K F vs (xs.map toD) → ∃ ks : List (Addr × List Int), vs = ks.map (fun p => V.ref p.1) ∧ ks.map (·.2) = xs.map TI.is ∧ ∀ p ∈ ks, TpA K F p.1 (p.2.map V.int)
  | _, [], r => by cases r; exact ⟨[], rfl, rfl, fun _ h => nomatch h⟩
  | _, x :: xs, r => by
    rw [List.map_cons] at r
    cases r with
    | cons r1 r2 =>
      obtain ⟨ks, e1, e2, e3⟩ := tup_rows r2
      obtain ⟨a, rfl, h⟩ := rp_tup_ints r1
      refine ⟨(a, TI.is x) :: ks, by rw [e1]; rfl, by rw [List.map_cons, List.map_cons, e2], fun p hp => ?_⟩
      rcases List.mem_cons.mp hp with e | hp
      · rw [e]; exact h
      · exact e3 p hp
theorem cr_setT (hc : X.calm = true) (hu : X.A.units + 64 < cLine) : CallR X (.type "set") (fun xs H Q => ∃ (l : Addr) (ks : List (Addr × List Int)), xs = [V.ref l] ∧ SqL X.K H l (ks.map fun p => V.ref p.1) ∧ (∀ p ∈ ks, SqT X.K H p.1 (p.2.map V.int)) ∧ (dedup (ks.map (·.2))).length ≤ 62 ∧
    ∀ a L, H a = none → (∀ p ∈ L, p ∈ ks) → (∀ p ∈ ks, p.2 ∈ L.map (·.2)) → (L.map (·.2)).Nodup → Q (.ref a) (upd H a (SetTO X.prog X.w a L))) := by
  rintro pins s σ H xs us Q I r ⟨l, ks, rfl, hl, hk, hf, q⟩
  rw [Vals.ref1 r]
  obtain ⟨its, rv, pl, hz⟩ := I.list hl
  refine set_of_tups (P := X.prog) (w := X.w) ks (I.ok.hd hc) pl.isList (by simpa using refs_of_vals rv) (fun p hp => I.isT (hk p hp)) hf (by omega) fun h' tk L es ep t R g k => ?_
  exact ⟨.ref s.heap.objs.size, upd H s.heap.objs.size (SetTO X.prog X.w s.heap.objs.size L), I.laid (t' := tk) k (Nat.le_refl _) (setTO_new R.t0), rfl, q _ L (I.hok.fresh (Nat.le_refl _)) (fun p hp => List.mem_of_mem_take (g.sub p hp)) (fun p hp => g.all p (by rw [List.take_length]; exact hp)) R.nd⟩
/-- set(xs), xs a list of tuples of ints -/
theorem XUT.set [TI α] [DecidableEq α] {e : Expr} {p : Pos} {m : Res (List α)} (hc : X.calm = true) (hu : X.A.units + 64 < cLine) (hm : X.mg "set" = none) (he : XW X W ρ e m) (hg : Gl X "set" := by rfl)
    (hs : starEach [e] X.env = [(false, eval e X.env)] := by rfl) : XUT X W ρ (.Call (.Name "set" p) [e] [] pos) (do
    let xs ← m
    setT xs) := by
  refine PE.imp (pe_callTy (cr_setT hc hu) hg hm PyProof.Rows.boot_set (XA.one he hs) (by decide) (by decide) hs rfl) fun σ H Q ⟨F0, H0, F, R, p⟩ => ?_
  refine ⟨F0, H0, F, R, ?_⟩
  cases m with
  | exc c i => exact p
  | stuck => exact p
  | ok xs =>
    intro v F1 H1 g r
    have p1 : PostSt (srT X.prog X.w X.K α) W F H (bdL (fun xs => decide ((dedup xs).length ≤ 62)) xs) Q := p
    unfold bdL at p1
    by_cases hl : (dedup xs).length ≤ 62
    · rw [if_pos (decide_eq_true hl)] at p1
      obtain ⟨a, vs, rfl, h1, h2⟩ := r.lst_of g.fh
      obtain ⟨ks, e1, e2, e3⟩ := tup_rows h2
      subst e1
      have hkl : (dedup (ks.map (·.2))).length ≤ (dedup xs).length := by
        have := nodup_len_le (l := dedup (ks.map (·.2))) (ys := (dedup xs).map TI.is) (nodup_dedup _) fun k hk => by
          rw [mem_dedup, e2] at hk
          obtain ⟨x, hx, e⟩ := List.mem_map.mp hk
          exact List.mem_map.mpr ⟨x, mem_dedup.mpr hx, e⟩
        rwa [List.length_map] at this
      refine ⟨a, ks, rfl, .inl (.inl h1), fun p hp => sub_seqT g.fh (e3 p hp).sq, by omega, fun q L nq s1 s2 s3 => ?_⟩
      refine p1 q F1 _ L (g.trans (.own g.fh nq)) (sub_free g.fh nq) (sub_free g.h nq) upd_same ⟨fun p hp => e3 p (s1 p hp), fun p hp => ?_, fun x hx => ?_, s3⟩
      · have : p.2 ∈ xs.map TI.is := by rw [← e2]; exact List.mem_map_of_mem (s1 p hp)
        obtain ⟨x, hx, e⟩ := List.mem_map.mp this
        exact ⟨x, hx, e.symm⟩
      · have : TI.is x ∈ ks.map (·.2) := by rw [e2]; exact List.mem_map_of_mem hx
        obtain ⟨p, hp, e⟩ := List.mem_map.mp this
        rw [← e]; exact s2 p hp
    · rw [if_neg (fun q => hl (of_decide_eq_true q))] at p1; exact p1.elim
/-! ### sorted, len -/
theorem cr_sortTU (hc : X.calm = true) (hu : X.A.units + 64 < cLine) : CallR X (.builtin "sorted") (fun vs H Q => ∃ (a : Addr) (L : List (Addr × List Int)), vs = [V.ref a] ∧ H a = some (SetTO X.prog X.w a L) ∧ (∀ p ∈ L, SqT X.K H p.1 (p.2.map V.int)) ∧ ((L.map (·.2)).Nodup → (∀ p ∈ L, p.2 ≠ []) ∨ L.length ≤ 1) ∧
    ∀ (L' : List (Addr × List Int)) (p : Addr), (L.map (·.2)).Nodup → L'.Perm L → L'.Pairwise (fun q r => PySem.W.dataLt (encQ r) (encQ q) = false) → H p = none → Q (.ref p) (upd H p (.lst (L'.map fun q => V.ref q.1)))) := by
  rintro pins s σ H vs us Q I r ⟨a, L, rfl, ha, hk, hne, q⟩
  have R0 : SetT0 X.prog X.w s.heap a L := (I.hok a _ ha).1
  obtain ⟨es, ep, t, R⟩ := R0.full fun p hp => I.isT (hk p hp)
  rw [Vals.ref1 r]
  refine sorted_setD R (I.ok.hd hc) hu (hne R.nd) fun s' p out c L' k g o hp hg hout pm pw => ?_
  have hfew : L'.length < 64 := by rw [pm.length_eq]; exact R.few
  have hv : Vals (L'.map fun q => V.ref q.1) out.toList := by rw [hout]; exact vals_of_refs L'
  have J : Inv X pins σ (upd H p (.lst (L'.map fun q => V.ref q.1))) { s with heap := s'.heap, gens := s'.gens, drawn := s'.drawn, toks := s'.toks } :=
    I.call (ch := []) (Un.laid k hp (I.hok.fresh hp)) (I.hok.laid k hp ⟨by rw [List.length_map, sizeLine_eq]; omega, out.toList, c, hv, hg⟩) (by rw [g]; exact I.bare) (fun _ z => nomatch z)
  have e : s' = { s with heap := s'.heap, gens := s'.gens, drawn := s'.drawn, toks := s'.toks } := by
    cases s'; cases s; cases o; rfl
  rw [e]
  exact ⟨.ref p, _, J, rfl, q L' p R.nd pm pw (I.hok.fresh hp)⟩
def sortT [DecidableEq α] [Ord1 α] (xs : List α) : Res (List α) := if Ord1.sb xs = true ∨ (dedup xs).length ≤ 1 then .ok (sortS xs) else .stuck
theorem XF.sortedT [TI α] [DecidableEq α] [PyEq α] [Ord1 α] [PyLt α] [OrdT α] [TIo α] {e : Expr} {p : Pos} {m : Res (List α)} (hc : X.calm = true) (hu : X.A.units + 64 < cLine) (hm : X.mg "sorted" = none) (he : XUT X W ρ e m) (hg : Gl X "sorted" := by rfl)
    (hs : starEach [e] X.env = [(false, eval e X.env)] := by rfl) : XF X W ρ (.Call (.Name "sorted" p) [e] [] pos) (do
    let xs ← m
    sortT xs) := by
  refine PE.imp (pe_callB (cr_sortTU hc hu) hg hm (by rfl) (PA.imp (pa_cons he pa_nil hs) fun σ H Q (h : rdSt (srT X.prog X.w X.K α) X.N.length W ρ m σ H fun v H1 => Q [v] H1) => h) (by decide) (by decide) hs rfl) fun σ H Q ⟨F0, H0, F, R, p⟩ => ?_
  refine ⟨F0, H0, F, R, ?_⟩
  cases m with
  | exc c i => exact p
  | stuck => exact p
  | ok xs =>
    intro a F1 H1 L g fa na ha r
    have r : TRel X.K F1 L xs := r
    have p1 : PostF X.K W F H ((sortT xs).map toD) Q := p
    unfold sortT at p1
    by_cases hb : Ord1.sb xs = true ∨ (dedup xs).length ≤ 1
    · rw [if_pos hb] at p1
      refine ⟨a, L, rfl, ha, fun p hp => sub_seqT g.fh (r.tp p hp).sq, fun nd => ?_, fun L' q nd pm pw nq => ?_⟩
      · rcases hb with hb | hb
        · refine .inl fun p hp => ?_
          obtain ⟨x, hx, e⟩ := r.sub p hp
          rw [e]; exact TIo.ne xs hb x hx
        · exact .inr (by rw [r.count nd]; exact hb)
      · obtain ⟨ys, e1, e2, e3⟩ := r.rows nd pm
        have el : ∀ x y : α, Ord1.lt x y = PySem.W.dataLt (.tuple ((TI.is x).map PyData.int)) (.tuple ((TI.is y).map PyData.int)) := fun x y => by rw [← TI.enc, ← TI.enc, PyLt.ok]
        have pw2 : ys.Pairwise fun x y => Ord1.lt y x = false := by
          have h1 : (L'.map (·.2)).Pairwise fun q r => PySem.W.dataLt (.tuple (r.map PyData.int)) (.tuple (q.map PyData.int)) = false := List.pairwise_map.mpr pw
          rw [e1] at h1
          exact (List.pairwise_map.mp h1).imp fun h => by rw [el]; exact h
        have e : ys = sortS xs := (sortP_uniq pw2 e2).symm
        rw [e] at e3
        exact p1 q F1 _ (g.trans (.own g.fh nq)) (sub_free g.h nq) ⟨sub_free g.fh nq, .inl ⟨_, _, upd_same, e3, rfl⟩⟩
    · rw [if_neg hb] at p1; exact p1.elim
theorem cr_lenTU : CallR X (.builtin "len") (fun vs H Q => ∃ (a : Addr) (L : List (Addr × List Int)), vs = [V.ref a] ∧ H a = some (SetTO X.prog X.w a L) ∧ (∀ p ∈ L, SqT X.K H p.1 (p.2.map V.int)) ∧ ((L.map (·.2)).Nodup → Q (.int L.length) H)) := by
  rintro pins s σ H vs us Q I r ⟨a, L, rfl, ha, hk, q⟩
  have R0 : SetT0 X.prog X.w s.heap a L := (I.hok a _ ha).1
  obtain ⟨es, ep, t, R⟩ := R0.full fun p hp => I.isT (hk p hp)
  obtain ⟨o, ho, hex, hd⟩ := R.ob
  have hf := R.few
  have hz := R.size
  rw [Vals.ref1 r]
  refine call_len_set ho hex hd R.fits (by omega) ⟨.int (es.size : Nat), H, I.tok _, ⟨s.toks + 1, rfl⟩, ?_⟩
  rw [hz]; exact q R.nd
theorem XV.lenT [TI α] [DecidableEq α] {e : Expr} {p : Pos} {m : Res (List α)} (hm : X.mg "len" = none) (he : XUT X W ρ e m) (hg : Gl X "len" := by rfl)
    (hs : starEach [e] X.env = [(false, eval e X.env)] := by rfl) : XV X W ρ (.Call (.Name "len" p) [e] [] pos) (do
    let xs ← m
    Res.ok ((dedup xs).length : Int)) := by
  refine PE.imp (pe_callB cr_lenTU hg hm (by rfl) (PA.imp (pa_cons he pa_nil hs) fun σ H Q (h : rdSt (srT X.prog X.w X.K α) X.N.length W ρ m σ H fun v H1 => Q [v] H1) => h) (by decide) (by decide) hs rfl) fun σ H Q ⟨F0, H0, F, R, p⟩ => ?_
  refine ⟨F0, H0, F, R, ?_⟩
  cases m with
  | exc c i => exact p
  | stuck => exact p
  | ok xs =>
    intro a F1 H1 L g fa na ha r
    have r : TRel X.K F1 L xs := r
    refine ⟨a, L, rfl, ha, fun p hp => sub_seqT g.fh (r.tp p hp).sq, fun nd => ?_⟩
    rw [r.count nd]
    exact p _ F1 H1 g (.int _)
end
end Vs
end
section
set_option Elab.async false
set_option linter.all false
set_option maxRecDepth 100000
set_option maxHeartbeats 2000000
/-! Vs25: comprehensions of two clauses. -/
namespace Vs
open Enc (toD)
open PySem PySem.Spec PyProof.Rows L2
section
variable {α β γ : Type} [Enc α] [Enc β] [Enc γ] {K : PySem.W.Frag} {n : Nat} {F0 H0 F1 F H F' H' : Hp} {σ : St} {ρ1 ρ : Rs} {D : Addr} {acc : List β}
theorem LcW.grow (L : LcW K n F0 H0 F1 σ ρ1 D F H acc) (g : Grow F H F' H') : LcW K n F0 H0 F1 σ ρ1 D F' H' acc := by
  obtain ⟨ws, e1, r1⟩ := L.lst
  exact ⟨L.R.grow g, L.sf.trans g.f, by rw [g.fn D (by rw [e1]; exact .lst)]; exact L.zf, L.z0, L.no, ws, g.h _ _ e1, r1.sub g.f⟩
theorem LcW.push (L : LcW K n F0 H0 F1 σ ρ1 D F H acc) {ws : List V} {u : V} {y : β} (e1 : H D = some (.lst ws)) (ru : Rp K F u (toD y)) : LcW K n F0 H0 F1 σ ρ1 D F (upd H D (.lst (ws ++ [u]))) (acc ++ [y]) := by
  obtain ⟨ws', e2, rw1⟩ := L.lst
  rw [e1] at e2; cases e2
  refine ⟨⟨L.R.len, ⟨L.R.base.f, fun b o q => ?_, fun b o q => ?_, L.R.base.fn⟩, L.R.sh, fun j d m => ?_, L.R.inj⟩, L.sf, L.zf, L.z0, L.no, ws ++ [u], upd_same, ?_⟩
  · rw [upd_ne (ne_of_none q L.z0)]; exact L.R.base.h b o q
  · rw [upd_ne (ne_of_none q L.zf)]; exact L.R.fh b o q
  · obtain ⟨a, e6, c6, z6⟩ := L.R.ow j d m
    have hne : a ≠ D := fun q => L.no j d m (by rw [e6, q])
    exact ⟨a, e6, ⟨c6.1, by rw [upd_ne hne]; exact c6.2⟩, z6⟩
  · rw [show (acc ++ [y]).map toD = acc.map toD ++ [toD y] by simp]
    exact rw1.append (.cons ru .nil)
theorem grow_push {G J : Hp} {ws : List V} (g : Grow G J F H) (hD : J D = none) (zf : F D = none) : Grow G J F (upd H D (.lst ws)) :=
  ⟨g.f, fun b o q => by rw [upd_ne (ne_of_none q hD)]; exact g.h b o q, fun b o q => by rw [upd_ne (ne_of_none q zf)]; exact g.fh b o q, g.fn⟩
theorem lc2C_cons (t : α → Res Bool) (g : α → Res (List β)) (x : α) (xs : List α) : lc2C t g (x :: xs) = (noX (t x) >>= fun b => if b then noX (g x) >>= fun y => lc2C t g xs >>= fun ys => .ok (y ++ ys) else lc2C t g xs) := rfl
theorem lc2C_no {t : α → Res Bool} {f : α → Res (List β)} : ∀ {xs : List α} {c : Str} {i : Int}, lc2C t f xs ≠ .exc c i
  | [], _, _, h => by cases h
  | x :: xs, c, i, h => by
    rw [lc2C_cons] at h
    cases e : noX (t x) with
    | exc c' i' => exact noX_no e
    | stuck => rw [e] at h; cases h
    | ok b =>
      rw [e] at h
      cases b with
      | false => exact lc2C_no h
      | true =>
        cases e2 : noX (f x) with
        | exc c' i' => exact noX_no e2
        | stuck => simp only [Res.ok_bind, if_true, e2] at h; cases h
        | ok y =>
          simp only [Res.ok_bind, if_true, e2] at h
          cases e3 : lc2C t f xs with
          | exc c' i' => exact lc2C_no e3
          | stuck => rw [e3] at h; cases h
          | ok ys => rw [e3] at h; cases h
end
section
variable {α β γ : Type} [Enc α] [Enc β] [Enc γ] {W : WX} {ρ : Rs}
def isSh : SV → Bool
  | .sh _ => true
  | .ow _ => false
theorem noX_is {α : Type} {m : Res α} {a : α} (h : noX m = .ok a) : m = .ok a := by cases m <;> first | exact h | cases h
/-- the reading of a comprehension of two clauses -/
theorem lc2_read {K : PySem.W.Frag} {n : Nat} {is is1 : List Nat} {ρ1 : Rs} {ρb : α → Rs} {ρ2 : α → Rs} {ρc : α → γ → Rs} {mi : Res (List α)} {mt : α → Res Bool} {mj : α → Res (List γ)} {mu : α → γ → Res Bool} {me : α → γ → Res β} {vs vs1 : List Nat} {σ : St} {H : Hp} {Q : VK}
    (his : ∀ j ∈ is, j ∈ vs) (his1 : ∀ j ∈ is1, j ∈ vs1) (hvs : ∀ j ∈ vs1, j ∈ vs) (w1 : ∀ p ∈ ρ1, p ∈ ρ ∧ p.1 ∉ vs) (w2 : ∀ x, ∀ p ∈ ρ2 x, p ∈ ρb x ∧ p.1 ∉ vs1) (w3 : ∀ x j e, (j, SV.ow e) ∈ ρ2 x → (j, SV.ow e) ∈ ρ1) (h : rdF K n W ρ ((do
    let xs ← mi
    lc2R mt mj mu me xs).map toD) σ H Q) :
    tLc2 (rdI K n W ρ (mi.map fun xs => xs.map toD)) (fun v σ H Q => ∃ x, rdG K n is ρ1 (toD x) (ρb x) v σ H Q) (fun σ H Q => ∃ x, rdT K n W0 (ρb x) (mt x) σ H Q)
      (fun σ H R => ∃ x, rdI K n W0 (ρb x) ((mj x).map fun xs => xs.map toD) σ H R) (fun v σ H Q => ∃ z : α × γ, rdG K n is1 (ρ2 z.1) (toD z.2) (ρc z.1 z.2) v σ H Q) (fun σ H Q => ∃ z : α × γ, rdT K n W0 (ρc z.1 z.2) (mu z.1 z.2) σ H Q)
      (fun σ H Q => ∃ z : α × γ, rdV K n W0 (ρc z.1 z.2) ((me z.1 z.2).map toD) σ H Q) vs vs1 σ H Q := by
  obtain ⟨F0, H0, F, R, p⟩ := h
  refine ⟨F0, H0, F, R, ?_⟩
  cases mi with
  | exc c i => exact p
  | stuck => exact p
  | ok xs =>
    intro J F1 H1 g it hz D nD
    have p1 : PostF K W F H ((lc2R mt mj mu me xs).map toD) Q := p
    unfold lc2R at p1
    cases el : lc2C mt (fun x => mj x >>= fun zs => lcR (mu x) (me x) zs) xs with
    | exc c i => exact absurd el lc2C_no
    | stuck => rw [el] at p1; exact p1.elim
    | ok out =>
      rw [el, Res.ok_bind] at p1
      unfold mkL at p1
      by_cases hout : out.length ≤ lim
      · rw [if_pos hout] at p1
        have hout' : out.length ≤ sizeLine := by rw [← lim_line]; exact hout
        have R1 : Rho K n F0 H0 F1 H1 (wipe σ vs) ρ1 := (R.grow g).wipe w1
        have z0 : H0 D = none := sub_free R.base.h (sub_free g.h nD)
        have hDn : H D = none := sub_free g.h nD
        refine ⟨fun i m H' => ∃ F' acc zs, m = xs.length - i ∧ i ≤ xs.length ∧ LcW K n F0 H0 F1 (wipe σ vs) ρ1 D F' H' acc ∧ lc2C mt (fun x => mj x >>= fun zs => lcR (mu x) (me x) zs) (xs.drop i) = .ok zs ∧ acc ++ zs = out ∧ Grow F H F' H',
          ⟨xs.length, F1, [], out, by simp, Nat.zero_le _, ⟨R1.grow (.own R1.fh nD), fun _ _ e => e, sub_free R1.fh nD, z0, fun j e m q => ?_, [], upd_same, .nil⟩, el, rfl, g.trans (.own g.fh nD)⟩, ?_⟩
        · obtain ⟨a, e1, c1, _⟩ := R1.ow j e m
          rw [q] at e1; cases e1
          exact c1.there nD
        · rintro i m H2 ⟨F2, acc, zs, rfl, hi2, L, e2, eo, g2⟩
          by_cases hlt : i < xs.length
          · have ex : xs[i]? = some xs[i] := List.getElem?_eq_getElem hlt
            generalize xs[i] = x at ex
            rw [drop_cons ex, lc2C_cons] at e2
            obtain ⟨b, eb, e2⟩ := Res.eq_ok_of_bind e2
            refine .inr ⟨it.go i F2 H2 L.sf L.R.fh (by simpa using hlt), fun H' => ∃ F' acc zs, LcW K n F0 H0 F1 (wipe σ vs) ρ1 D F' H' acc ∧ lc2C mt (fun x => mj x >>= fun zs => lcR (mu x) (me x) zs) (xs.drop (i + 1)) = .ok zs ∧ acc ++ zs = out ∧ Grow F H F' H',
              fun H' ⟨F', acc', zs', L', e', eo', g'⟩ => ⟨xs.length - (i + 1), by omega, F', acc', zs', rfl, hlt, L', e', eo', g'⟩, fun v H3 y => ?_⟩
            obtain ⟨F3, g3, r3⟩ := it.yld i F2 H2 (toD x) v H3 L.sf L.R.fh (by rw [List.getElem?_map, ex]; rfl) y
            refine ⟨x, F0, H0, F3, L.R.grow g3, r3, fun σ4 R4 k4 => ⟨?_, x, F0, H0, F3, R4, ?_⟩⟩
            · rw [wipe_eq (σ := wipe σ vs) (by rw [R4.len, L.R.len]) fun j hj => k4 j fun hm => hj (his j hm)]
              exact wipe_eq (by rw [wipe_length]) fun j hj => by rw [wipe_at, if_neg hj]
            · have et := noX_is eb
              rw [et]
              intro F4 H4 g4
              cases b with
              | false => exact ⟨F4, acc, zs, L.grow (g3.trans g4), e2, eo, g2.trans (g3.trans g4)⟩
              | true =>
                simp only [if_true] at e2
                obtain ⟨part, ey, e2⟩ := Res.eq_ok_of_bind e2
                obtain ⟨zs', ez, e2⟩ := Res.eq_ok_of_bind e2
                cases e2
                obtain ⟨js, ej, ep⟩ := Res.eq_ok_of_bind (noX_is ey)
                refine ⟨x, F0, H0, F4, R4.grow g4, ?_⟩
                rw [ej]
                intro J1 F5 H5 g5 it1 hz1
                have L5 := L.grow ((g3.trans g4).trans g5)
                have RI : Rho K n F0 H0 F5 H5 (wipe σ4 vs1) (ρ2 x) := ((R4.grow g4).grow g5).wipe (w2 x)
                have LI : LcW K n F0 H0 F5 (wipe σ4 vs1) (ρ2 x) D F5 H5 acc := ⟨RI, fun _ _ e => e, L5.zf, z0, fun j e m q => by
                  obtain ⟨a, e1, c1, z1⟩ := RI.ow j e m
                  rw [q] at e1; cases e1
                  have m1 := w3 x j e m
                  obtain ⟨_, nv⟩ := w1 _ m1
                  have q4 : σ4[j]? = some (some (.ref D)) := by rw [← wipe_out (w2 x _ m).2]; exact q
                  rw [k4 j fun hm => nv (his j hm)] at q4
                  exact L.no j e m1 q4, L5.lst⟩
                have g5' := g2.trans ((g3.trans g4).trans g5)
                refine ⟨fun j k H' => ∃ F' a1 ws, k = js.length - j ∧ j ≤ js.length ∧ LcW K n F0 H0 F1 (wipe σ vs) ρ1 D F' H' (acc ++ a1) ∧ LcW K n F0 H0 F5 (wipe σ4 vs1) (ρ2 x) D F' H' (acc ++ a1) ∧ lcR (mu x) (me x) (js.drop j) = .ok ws ∧ a1 ++ ws = part ∧ Grow F H F' H',
                  ⟨js.length, F5, [], part, by simp, Nat.zero_le _, by rw [List.append_nil]; exact L5, by rw [List.append_nil]; exact LI, ep, rfl, g5'⟩, ?_⟩
                rintro j k H6 ⟨F6, a1, ws, rfl, hj, L6, LI6, e6, eo6, g6⟩
                by_cases hjl : j < js.length
                · have ejx : js[j]? = some js[j] := List.getElem?_eq_getElem hjl
                  generalize js[j] = z at ejx
                  rw [drop_cons ejx, lcR_cons] at e6
                  obtain ⟨b1, eb1, e6⟩ := Res.eq_ok_of_bind e6
                  refine .inr ⟨it1.go j F6 H6 LI6.sf LI6.R.fh (by simpa using hjl), fun H' => ∃ F' a1 ws, LcW K n F0 H0 F1 (wipe σ vs) ρ1 D F' H' (acc ++ a1) ∧ LcW K n F0 H0 F5 (wipe σ4 vs1) (ρ2 x) D F' H' (acc ++ a1) ∧ lcR (mu x) (me x) (js.drop (j + 1)) = .ok ws ∧ a1 ++ ws = part ∧ Grow F H F' H',
                    fun H' ⟨F', a1', ws', x1, x2, x3, x4, x5⟩ => ⟨js.length - (j + 1), by omega, F', a1', ws', rfl, hjl, x1, x2, x3, x4, x5⟩, fun v1 H7 y1 => ?_⟩
                  obtain ⟨F7, g7, r7⟩ := it1.yld j F6 H6 (toD z) v1 H7 LI6.sf LI6.R.fh (by rw [List.getElem?_map, ejx]; rfl) y1
                  refine ⟨(x, z), F0, H0, F7, LI6.R.grow g7, r7, fun σ8 R8 k8 => ⟨?_, (x, z), F0, H0, F7, R8, ?_⟩⟩
                  · rw [wipe_eq (σ := wipe σ4 vs1) (by rw [R8.len, LI6.R.len]) fun j hj => k8 j fun hm => hj (his1 j hm)]
                    exact wipe_eq (by rw [wipe_length]) fun j hj => by rw [wipe_at, if_neg hj]
                  · dsimp only
                    rw [noX_is eb1]
                    intro F8 H8 g8
                    cases b1 with
                    | false => exact ⟨F8, a1, ws, L6.grow (g7.trans g8), LI6.grow (g7.trans g8), e6, eo6, g6.trans (g7.trans g8)⟩
                    | true =>
                      simp only [if_true] at e6
                      obtain ⟨y', ey1, e6⟩ := Res.eq_ok_of_bind e6
                      obtain ⟨ws', ez1, e6⟩ := Res.eq_ok_of_bind e6
                      cases e6
                      refine ⟨(x, z), F0, H0, F8, R8.grow g8, ?_⟩
                      dsimp only
                      rw [noX_is ey1]
                      intro u F9 H9 g9 r9
                      have L9 := L6.grow ((g7.trans g8).trans g9)
                      have LI9 := LI6.grow ((g7.trans g8).trans g9)
                      obtain ⟨us, e9, ru⟩ := L9.lst
                      have hlen : us.length = (acc ++ a1).length := by rw [ru.length, List.length_map]
                      refine ⟨us, e9, ?_, F9, a1 ++ [y'], ws', by rw [← List.append_assoc]; exact L9.push e9 r9, by rw [← List.append_assoc]; exact LI9.push e9 r9, ez1, by rw [List.append_assoc]; exact eo6, grow_push (g6.trans ((g7.trans g8).trans g9)) hDn L9.zf⟩
                      rw [hlen]
                      have : (acc ++ a1).length + 1 ≤ out.length := by
                        rw [← eo, ← eo6]; simp only [List.length_append, List.length_cons]; omega
                      omega
                · have e : j = js.length := by omega
                  subst e
                  rw [List.drop_length] at e6
                  cases e6
                  rw [List.append_nil] at eo6
                  subst eo6
                  exact .inl ⟨it1.stop _ F6 H6 LI6.sf LI6.R.fh (by simp), F6, acc ++ a1, zs', L6, ez, by rw [List.append_assoc]; exact eo, g6⟩
          · have e : i = xs.length := by omega
            subst e
            rw [List.drop_length] at e2
            cases e2
            rw [List.append_nil] at eo
            subst eo
            obtain ⟨ws, e1, rw1⟩ := L.lst
            exact .inl ⟨it.stop _ F2 H2 L.sf L.R.fh (by simp), p1 D F2 H2 g2 hDn ⟨L.zf, .inl ⟨ws, _, e1, rw1, rfl⟩⟩⟩
      · rw [if_neg hout] at p1; exact p1.elim
end
section
variable {X : Cx} {W : WX} {ρ : Rs} {pos : Pos} {α β γ δ S τ Ω : Type} [Enc α] [Enc β] [Enc γ] [Enc δ]
theorem shs_of {ρ1 ρ2 : Rs} {k : Nat} {ks : List Nat} (h1 : ((ρ2.take k).all fun p => isSh p.2) = true) (h2 : ρ2.drop k = keepAt ρ1 ks) {j : Nat} {e : PyData} (m : (j, SV.ow e) ∈ ρ2) : (j, SV.ow e) ∈ ρ1 := by
  rw [← List.take_append_drop k ρ2] at m
  rcases List.mem_append.mp m with m | m
  · have := List.all_eq_true.mp h1 _ m
    cases this
  · rw [h2] at m; exact keep_mem m
/-- [elt for tg in iter if .. for tg1 in iter1 if ..] -/
theorem XF.lc2 {elt tg iter tg1 iter1 : Expr} {ifs ifs1 : List Expr} {scope : Scope} {is is1 : List Nat} (own : List (Str × Nat)) (vs1 ks ks2 : List Nat) (k3 : Nat) (ks3 : List Nat) {mi : Res (List α)} {mt : α → Res Bool} {mj : α → Res (List γ)} {mu : α → γ → Res Bool} {me : α → γ → Res β} (ρ1 : Rs) (ρb ρ2 : α → Rs) (ρc : α → γ → Rs)
    (hc : X.calm = true) (hN : X.N.Nodup) (hi : XI X W ρ tg iter mi) (ok : blkC X.N X.env.scope scope own = true)
    (hg : ∀ x (s : Shared) (H : Hp) (C : Addr) (cl : List (Str × Addr)) (fp : List Addr), XG (X.blk s H scope (compEnvC scope cl C X.env) fp) is ρ1 tg (toD x) (ρb x))
    (ht : ∀ x (s : Shared) (H : Hp) (C : Addr) (cl : List (Str × Addr)) (fp : List Addr), XTs (X.blk s H scope (compEnvC scope cl C X.env) fp) W0 (ρb x) ifs (mt x))
    (hi1 : ∀ x (s : Shared) (H : Hp) (C : Addr) (cl : List (Str × Addr)) (fp : List Addr), XI (X.blk s H scope (compEnvC scope cl C X.env) fp) W0 (ρb x) tg1 iter1 (mj x))
    (hg1 : ∀ x z (s : Shared) (H : Hp) (C : Addr) (cl : List (Str × Addr)) (fp : List Addr), XG (X.blk s H scope (compEnvC scope cl C X.env) fp) is1 (ρ2 x) tg1 (toD z) (ρc x z))
    (ht1 : ∀ x z (s : Shared) (H : Hp) (C : Addr) (cl : List (Str × Addr)) (fp : List Addr), XTs (X.blk s H scope (compEnvC scope cl C X.env) fp) W0 (ρc x z) ifs1 (mu x z))
    (he : ∀ x z (s : Shared) (H : Hp) (C : Addr) (cl : List (Str × Addr)) (fp : List Addr), XV (X.blk s H scope (compEnvC scope cl C X.env) fp) W0 (ρc x z) elt (me x z))
    (hρ : ρ1 = keepAt ρ ks := by rfl) (ho : okK ρ (own.map (·.2)) ks = true := by rfl) (hρ2 : ∀ x, ρ2 x = keepAt (ρb x) ks2 := by intro _; rfl) (ho2 : ∀ x, okK (ρb x) vs1 ks2 = true := by intro _; rfl)
    (h31 : ∀ x, (((ρ2 x).take k3).all fun p => isSh p.2) = true := by intro _; rfl) (h32 : ∀ x, (ρ2 x).drop k3 = keepAt ρ1 ks3 := by intro _; rfl)
    (his : (is.all fun j => (own.map (·.2)).contains j) = true := by rfl) (his1 : (is1.all fun j => vs1.contains j) = true := by rfl) (hvs : (vs1.all fun j => (own.map (·.2)).contains j) = true := by rfl)
    (hs : ∀ x, foldedSetIterable iter X.env x = pure x := by intro _; rfl) (hs1 : ∀ env x, foldedSetIterable iter1 env x = pure x := by intro _ _; rfl) :
    XF X W ρ (.ListComp elt [⟨tg, iter, ifs, 0⟩, ⟨tg1, iter1, ifs1, 0⟩] scope pos) (do
    let xs ← mi
    lc2R mt mj mu me xs) :=
  PE.imp (pe_lc2 (vs1 := vs1) hc hN hi (blkOk_by ok) (fun i hi => by simpa [List.contains_iff_mem] using List.all_eq_true.mp hvs i hi) (fun s H C cl fp => PG.ex fun x => hg x s H C cl fp) (fun s H C cl fp => PTs.ex fun x => ht x s H C cl fp)
    (fun s H C cl fp => ⟨fun pins s' σ H' R I ⟨x, q⟩ => (hi1 x s H C cl fp).run pins s' σ H' R I q⟩) (fun s H C cl fp => PG.ex fun z : α × γ => hg1 z.1 z.2 s H C cl fp) (fun s H C cl fp => PTs.ex fun z : α × γ => ht1 z.1 z.2 s H C cl fp) (fun s H C cl fp => PE.ex fun z : α × γ => he z.1 z.2 s H C cl fp) hs hs1) fun σ H Q h =>
    lc2_read (is := is) (is1 := is1) (ρ1 := ρ1) (ρ2 := ρ2) (fun j hj => by simpa [List.contains_iff_mem] using List.all_eq_true.mp his j hj) (fun j hj => by simpa [List.contains_iff_mem] using List.all_eq_true.mp his1 j hj) (fun j hj => by simpa [List.contains_iff_mem] using List.all_eq_true.mp hvs j hj)
      (fun p hp => by rw [hρ] at hp; exact ⟨keep_mem hp, keep_ne hp ho⟩) (fun x p hp => by rw [hρ2 x] at hp; exact ⟨keep_mem hp, keep_ne hp (ho2 x)⟩) (fun x j e m => shs_of (h31 x) (h32 x) m) h
/-- name = [.. for .. for ..] -/
theorem XB.asgLc2 (i : Nat) {nm : Str} {py : Pos} {elt tg iter tg1 iter1 : Expr} {ifs ifs1 : List Expr} {scope : Scope} {is is1 : List Nat} (own : List (Str × Nat)) (vs1 ks ks2 : List Nat) (k3 : Nat) (ks3 ks4 : List Nat) {rest : List Stmt} {mi : Res (List α)} {mt : α → Res Bool} {mj : α → Res (List γ)} {mu : α → γ → Res Bool} {me : α → γ → Res β} {mr : List β → Res τ} {fin : τ → Fi} (ρ1 : Rs) (ρb ρ2 : α → Rs) (ρc : α → γ → Rs) (ρ' : List β → Rs)
    (hc : X.calm = true) (hN : X.N.Nodup) (hi : XI X W ρ tg iter mi) (ok : blkC X.N X.env.scope scope own = true)
    (hg : ∀ x (s : Shared) (H : Hp) (C : Addr) (cl : List (Str × Addr)) (fp : List Addr), XG (X.blk s H scope (compEnvC scope cl C X.env) fp) is ρ1 tg (toD x) (ρb x))
    (ht : ∀ x (s : Shared) (H : Hp) (C : Addr) (cl : List (Str × Addr)) (fp : List Addr), XTs (X.blk s H scope (compEnvC scope cl C X.env) fp) W0 (ρb x) ifs (mt x))
    (hi1 : ∀ x (s : Shared) (H : Hp) (C : Addr) (cl : List (Str × Addr)) (fp : List Addr), XI (X.blk s H scope (compEnvC scope cl C X.env) fp) W0 (ρb x) tg1 iter1 (mj x))
    (hg1 : ∀ x z (s : Shared) (H : Hp) (C : Addr) (cl : List (Str × Addr)) (fp : List Addr), XG (X.blk s H scope (compEnvC scope cl C X.env) fp) is1 (ρ2 x) tg1 (toD z) (ρc x z))
    (ht1 : ∀ x z (s : Shared) (H : Hp) (C : Addr) (cl : List (Str × Addr)) (fp : List Addr), XTs (X.blk s H scope (compEnvC scope cl C X.env) fp) W0 (ρc x z) ifs1 (mu x z))
    (he : ∀ x z (s : Shared) (H : Hp) (C : Addr) (cl : List (Str × Addr)) (fp : List Addr), XV (X.blk s H scope (compEnvC scope cl C X.env) fp) W0 (ρc x z) elt (me x z)) (hr : ∀ ys, XB X W (ρ' ys) rest (mr ys) fin)
    (hsw : swapsWith (.ListComp elt [⟨tg, iter, ifs, 0⟩, ⟨tg1, iter1, ifs1, 0⟩] scope pos) (some (.Name nm py)) pos.line X.env = pure true)
    (hρ : ρ1 = keepAt ρ ks := by rfl) (ho : okK ρ (own.map (·.2)) ks = true := by rfl) (hρ2 : ∀ x, ρ2 x = keepAt (ρb x) ks2 := by intro _; rfl) (ho2 : ∀ x, okK (ρb x) vs1 ks2 = true := by intro _; rfl)
    (h31 : ∀ x, (((ρ2 x).take k3).all fun p => isSh p.2) = true := by intro _; rfl) (h32 : ∀ x, (ρ2 x).drop k3 = keepAt ρ1 ks3 := by intro _; rfl)
    (his : (is.all fun j => (own.map (·.2)).contains j) = true := by rfl) (his1 : (is1.all fun j => vs1.contains j) = true := by rfl) (hvs : (vs1.all fun j => (own.map (·.2)).contains j) = true := by rfl)
    (hρ' : ∀ ys, ρ' ys = (i, SV.ow (toD ys)) :: keepAt ρ ks4 := by intro _; rfl) (ho' : okK ρ [i] ks4 = true := by rfl) (hi' : X.N[i]? = some nm := by rfl) (hyl : X.env.scope.names.lookup nm = some .local := by rfl)
    (hs : ∀ x, foldedSetIterable iter X.env x = pure x := by intro _; rfl) (hs1 : ∀ env x, foldedSetIterable iter1 env x = pure x := by intro _ _; rfl) {pos' : Pos} (hpos : pos'.line = pos.line := by rfl) :
    XB X W ρ (.Assign [.Name nm py] (.ListComp elt [⟨tg, iter, ifs, 0⟩, ⟨tg1, iter1, ifs1, 0⟩] scope pos) pos' :: rest) (do
    let xs ← mi
    let ys ← lc2R mt mj mu me xs
    mr ys) fin := by
  refine PSs.imp (pss_cons (ps_setLc2 (i := i) (own := own) (vs1 := vs1) hc hN hi' hyl (by rw [hpos]; exact hsw) hi (blkOk_by ok) (fun i hi => by simpa [List.contains_iff_mem] using List.all_eq_true.mp hvs i hi)
    (fun s H C cl fp => PG.ex (t := fun x => rdG X.K X.N.length is ρ1 (toD x) (ρb x)) fun x => hg x s H C cl fp) (fun s H C cl fp => PTs.ex (t := fun x => rdT X.K X.N.length W0 (ρb x) (mt x)) fun x => ht x s H C cl fp)
    (wi1 := fun σ H R => ∃ x, rdI X.K X.N.length W0 (ρb x) ((mj x).map fun xs => xs.map toD) σ H R)
    (fun s H C cl fp => ⟨fun pins s' σ H' R I ⟨x, q⟩ => (hi1 x s H C cl fp).run pins s' σ H' R I q⟩) (fun s H C cl fp => PG.ex (t := fun z : α × γ => rdG X.K X.N.length is1 (ρ2 z.1) (toD z.2) (ρc z.1 z.2)) fun z : α × γ => hg1 z.1 z.2 s H C cl fp) (fun s H C cl fp => PTs.ex (t := fun z : α × γ => rdT X.K X.N.length W0 (ρc z.1 z.2) (mu z.1 z.2)) fun z : α × γ => ht1 z.1 z.2 s H C cl fp)
    (fun s H C cl fp => PE.ex (t := fun z : α × γ => rdV X.K X.N.length W0 (ρc z.1 z.2) ((me z.1 z.2).map toD)) fun z : α × γ => he z.1 z.2 s H C cl fp) hs hs1) (PSs.ex hr)) fun D σ H ⟨F0, H0, F, R, p⟩ => ?_
  have p1 : PostS X.K X.N.length W F0 H0 F ((mi >>= fun xs => lc2R mt mj mu me xs) >>= mr) fin D := by
    rw [Res.bind_assoc']; exact p
  unfold tSeq tAsg
  refine lc2_read (W := W) (ρ := ρ) (ρ1 := ρ1) (is := is) (is1 := is1) (ρb := ρb) (ρ2 := ρ2) (ρc := ρc) (mi := mi) (mt := mt) (mj := mj) (mu := mu) (me := me) (vs := own.map (·.2)) (vs1 := vs1) (fun j hj => by simpa [List.contains_iff_mem] using List.all_eq_true.mp his j hj) (fun j hj => by simpa [List.contains_iff_mem] using List.all_eq_true.mp his1 j hj) (fun j hj => by simpa [List.contains_iff_mem] using List.all_eq_true.mp hvs j hj)
    (fun p hp => by rw [hρ] at hp; exact ⟨keep_mem hp, keep_ne hp ho⟩) (fun x p hp => by rw [hρ2 x] at hp; exact ⟨keep_mem hp, keep_ne hp (ho2 x)⟩) (fun x j e m => shs_of (h31 x) (h32 x) m) ⟨F0, H0, F, R, ?_⟩
  have q := PostS.bindF R p1
  cases em : (mi >>= fun xs => lc2R mt mj mu me xs) with
  | exc c i => rw [em] at q; exact q
  | stuck => rw [em] at q; exact q
  | ok ys =>
    rw [em] at p1
    intro a F1 H1 g z c
    refine ⟨ys, F0, H0, F1, ?_, PostS.sub g.f p1⟩
    refine (R.grow g).setO (List.getElem?_eq_some_iff.mp hi').1 c (sub_free R.base.h z) (fun j e m hj q => ?_) (by rw [hρ']; exact put_w ho')
    obtain ⟨b, e1, c1, _⟩ := R.ow j e m
    rw [q] at e1; cases e1
    exact c1.there z
end
end Vs
end
section
set_option Elab.async false
set_option linter.all false
set_option maxRecDepth 100000
set_option maxHeartbeats 2000000
/-! Vs26: constants that are tuples; dicts with tuples as keys; d.get, d.items. -/
namespace Vs
open Enc (toD)
open PySem PySem.Spec PyProof.Rows L2
/-! ### a constant tuple -/
theorem RpH.ctup_of {K : PySem.W.Frag} {F H : Hp} {v : V} {α : Type} [Enc α] {c : CTup α} (r : RpH K F H v (toD c)) : ∃ a vs, v = .ref a ∧ TpC K a vs ∧ RpAll K F vs (c.l.map toD) := by
  rcases r with r | ⟨a, e, q⟩
  · cases r with
    | ctup h1 h2 => exact ⟨_, _, rfl, h1, h2⟩
  · obtain ⟨_, ⟨_, _, _, _, z⟩ | ⟨_, _, _, _, z⟩ | ⟨_, _, _, _, z⟩⟩ := q <;> cases z
class FlatE (α : Type) [Enc α] [DecidableEq α] : Prop where
  fl : ∀ {K : PySem.W.Frag} {F : Hp} {v : V} {x : α}, Rp K F v (toD x) → flatV v = true
  eq : ∀ {K : PySem.W.Frag} {F : Hp} {v u : V} {x y : α}, Rp K F v (toD x) → Rp K F u (toD y) → eqV u v = decide (y = x)
instance : FlatE Int := ⟨fun r => by rw [r.int_of]; rfl, fun r q => by rw [r.int_of, q.int_of]; first | rfl | (simp [eqV])⟩
section
variable {X : Cx} {W : WX} {ρ : Rs} {pos : Pos} {α β γ δ S τ Ω : Type} [Enc α] [Enc β] [Enc γ] [Enc δ]
theorem XV.globC {x : Str} {a : Addr} {c : CTup α} {vs : List V} (hm : X.mg x = some (.ref a)) (hT : TpC X.K a vs) (hr : ∀ F, RpAll X.K F vs (c.l.map toD)) (hg : Gl X x := by rfl) (hd : (x == ("__debug__" : Str)) = false := by decide) : XV X W ρ (.Name x pos) (.ok c) :=
  XV.glob hg hm (show RelV (.ref a) (.ref a) from rfl) (fun F => .ctup hT (hr F)) hd
theorem in_any [DecidableEq α] [FlatE α] {K : PySem.W.Frag} {F : Hp} {v : V} {x : α} (r : Rp K F v (toD x)) : ∀ {vs : List V} {xs : List α}, RpAll K F vs (xs.map toD) → inV v vs = decide (x ∈ xs) ∧ vs.all flatV = true
  | _, [], q => by cases q; simp [inV]
  | _, y :: xs, q => by
    rw [List.map_cons] at q
    cases q with
    | cons q1 q2 =>
      obtain ⟨h1, h2⟩ := in_any r q2
      unfold inV at h1 ⊢
      rw [List.any_cons, h1, List.all_cons, FlatE.fl q1, h2, FlatE.eq r q1]
      refine ⟨?_, rfl⟩
      rw [← Bool.decide_or]
      exact decide_eq_decide.mpr (by rw [List.mem_cons]; exact or_congr ⟨Eq.symm, Eq.symm⟩ Iff.rfl)
theorem RpH.flat_of [DecidableEq α] {K : PySem.W.Frag} {F H : Hp} {v : V} {x : α} (hx : ∀ ds, toD x ≠ .list ds) (hx2 : ∀ ds, toD x ≠ .dict ds) (r : RpH K F H v (toD x)) : Rp K F v (toD x) := by
  rcases r with r | ⟨a, e, q⟩
  · exact r
  · obtain ⟨_, ⟨_, _, _, _, z⟩ | ⟨_, _, _, _, z⟩ | ⟨_, _, _, _, z⟩⟩ := q
    · exact absurd z (hx _)
    · exact absurd z (hx2 _)
    · exact absurd z (hx2 _)
theorem c_inC : CmpOk X .In (fun (a : Int) (xs : CTup Int) => decide (a ∈ xs.l)) :=
  OpR.imp op_in_seq fun vx vy H Q ⟨F, x, y, s, r1, r2, q⟩ => by
    have r1 := RpH.flat_of (x := x) (fun _ e => by cases e) (fun _ e => by cases e) r1
    obtain ⟨a, vs, rfl, h1, h2⟩ := r2.ctup_of
    obtain ⟨h3, h4⟩ := in_any r1 h2
    refine ⟨a, vs, rfl, .inr (h1 H), FlatE.fl r1, h4, ?_⟩
    show Q (.bl (inV vx vs)) H
    rw [h3]; exact q
theorem c_notinC : CmpOk X .NotIn (fun (a : Int) (xs : CTup Int) => !decide (a ∈ xs.l)) :=
  OpR.imp op_notIn_seq fun vx vy H Q ⟨F, x, y, s, r1, r2, q⟩ => by
    have r1 := RpH.flat_of (x := x) (fun _ e => by cases e) (fun _ e => by cases e) r1
    obtain ⟨a, vs, rfl, h1, h2⟩ := r2.ctup_of
    obtain ⟨h3, h4⟩ := in_any r1 h2
    refine ⟨a, vs, rfl, .inr (h1 H), FlatE.fl r1, h4, ?_⟩
    show Q (.bl (!inV vx vs)) H
    rw [h3]; exact q
theorem b_lenC : C1 X (.builtin "len") (fun xs : CTup α => Res.ok (lenL xs.l)) := ⟨CallR.imp call_len_seq fun vs H Q ⟨F, x, z, v, s, e, r, ez, q⟩ => by
  cases ez
  obtain ⟨a, us, rfl, h1, h2⟩ := r.ctup_of
  refine ⟨a, us, e, .inr (h1 H), ?_⟩
  have := q (.int (lenL x.l)) F H (.refl s) (.int _)
  unfold lenL at this
  rw [h2.length, List.length_map]
  exact this, fun _ _ _ e => by cases e⟩
end
/-! ### tuples as keys -/
class KeyT (κ : Type) [Enc κ] [DecidableEq κ] [DKey κ] where
  key : κ → List Key
  enc : ∀ k : κ, toD k = .tuple ((key k).map keyD)
  inj : ∀ a b : κ, key a = key b → a = b
  tk : DKey.tk κ = true
instance : KeyT (Tup Int) := ⟨fun k => k.l.map .inl, fun k => by show PyData.tuple (k.l.map toD) = _; rw [List.map_map]; rfl, fun a b h => by
  cases a; cases b
  exact congrArg Tup.mk (List.map_inj_right (fun x y e => by cases e; rfl) |>.mp h), rfl⟩
instance : KeyT (Int × Int) := ⟨fun k => [.inl k.1, .inl k.2], fun k => rfl, fun a b h => by cases a; cases b; cases h; rfl, rfl⟩
instance : KeyT (T3 Int Int Int) := ⟨fun k => [.inl k.a, .inl k.b, .inl k.c], fun k => rfl, fun a b h => by cases a; cases b; cases h; rfl, rfl⟩
instance : KeyT (PStr × Int) := ⟨fun k => [.inr k.1.1, .inl k.2], fun k => rfl, fun a b h => by
  obtain ⟨⟨a, _⟩, _⟩ := a; obtain ⟨⟨b, _⟩, _⟩ := b; cases h; rfl, rfl⟩
section
variable {κ α : Type} [Enc κ] [DecidableEq κ] [DKey κ] [Enc α] [KeyT κ] {K : PySem.W.Frag} {F H : Hp}
theorem dict_encT (d : Dict κ α) : toD d = .dict ((.bool true, .none) :: encP d.l) := by
  show PyData.dict ((.bool (DKey.tk κ), .none) :: _) = _
  rw [KeyT.tk]
theorem keyDs_inj {a b : List Key} (h : a.map keyD = b.map keyD) : a = b := (List.map_inj_right fun x y e => keyD_inj e).mp h
theorem rp_keys {F : Hp} : ∀ {vs : List V} {ks : List Key}, RpAll K F vs (ks.map keyD) → vs = ks.map kV
  | _, [], r => by cases r; rfl
  | _, .inl i :: ks, r => by
    rw [List.map_cons] at r
    cases r with
    | cons r1 r2 => rw [rp_keys r2, Rp.int_of (i := i) r1]; rfl
  | _, .inr x :: ks, r => by
    rw [List.map_cons] at r
    cases r with
    | cons r1 r2 => rw [rp_keys r2, Rp.str_of (i := x) r1]; rfl
theorem keys_rp {F : Hp} : ∀ ks : List Key, RpAll K F (ks.map kV) (ks.map keyD)
  | [] => .nil
  | .inl i :: ks => .cons (.int i) (keys_rp ks)
  | .inr x :: ks => .cons (.str x) (keys_rp ks)
theorem key_vT {v : V} {k : κ} (r : Rp K F v (toD k)) : ∃ b, v = .ref b ∧ F b = some (.tup ((KeyT.key k).map kV)) := by
  rw [KeyT.enc] at r
  obtain ⟨a, xs, e, h1, h2⟩ := r.tup_at
  have q := rp_keys h2
  subst q
  exact ⟨a, e, h1⟩
theorem rpt_cons {kvs : List (List Key × V)} {p : κ × α} {l : List (κ × α)} (r : RpT K F kvs (encP (p :: l))) : ∃ v rest, kvs = (KeyT.key p.1, v) :: rest ∧ Rp K F v (toD p.2) ∧ RpT K F rest (encP l) := by
  have r' : RpT K F kvs ((toD p.1, toD p.2) :: encP l) := r
  rw [KeyT.enc] at r'
  generalize ek : (KeyT.key p.1).map keyD = kd at r'
  cases r' with
  | @cons k v rest d ds h1 h2 => exact ⟨v, rest, by rw [keyDs_inj ek], h1, h2⟩
theorem rpt_mk {v : V} {rest : List (List Key × V)} {p : κ × α} {l : List (κ × α)} (h1 : Rp K F v (toD p.2)) (h2 : RpT K F rest (encP l)) : RpT K F ((KeyT.key p.1, v) :: rest) (encP (p :: l)) := by
  show RpT K F _ ((toD p.1, toD p.2) :: encP l)
  rw [KeyT.enc]
  exact .cons h1 h2
theorem rpt_nil {kvs : List (List Key × V)} (r : RpT K F kvs (encP ([] : List (κ × α)))) : kvs = [] := by cases r; rfl
theorem rpt_keys : ∀ {kvs : List (List Key × V)} {l : List (κ × α)}, RpT K F kvs (encP l) → kvs.map (·.1) = l.map fun p => KeyT.key p.1
  | _, [], r => by rw [rpt_nil r]; rfl
  | _, p :: l, r => by
    obtain ⟨v, rest, rfl, _, h2⟩ := rpt_cons r
    rw [List.map_cons, List.map_cons, rpt_keys h2]
theorem rpt_len {kvs : List (List Key × V)} {l : List (κ × α)} (r : RpT K F kvs (encP l)) : kvs.length = l.length := by
  simpa using congrArg List.length (rpt_keys r)
theorem rpt_val (k : κ) : ∀ {kvs : List (List Key × V)} {l : List (κ × α)}, RpT K F kvs (encP l) → match valP l k with
    | some x => ∃ v, valV kvs (KeyT.key k) = some v ∧ Rp K F v (toD x)
    | none => valV kvs (KeyT.key k) = none
  | _, [], r => by rw [rpt_nil r]; rfl
  | _, p :: l, r => by
    obtain ⟨v, rest, rfl, h1, h2⟩ := rpt_cons r
    have ih := rpt_val k h2
    unfold valP at ih ⊢
    rw [List.find?_cons]
    by_cases h : p.1 = k
    · simp only [h, decide_true, Option.map_some]
      exact ⟨v, valV_pos (by first | rfl | rw [h] | rw [← h]), h1⟩
    · have hn : ¬ KeyT.key p.1 = KeyT.key k := fun e => h (KeyT.inj _ _ e)
      simp only [h, decide_false]
      rw [valV_neg hn]
      exact ih
theorem rpt_any (k : κ) : ∀ {kvs : List (List Key × V)} {l : List (κ × α)}, RpT K F kvs (encP l) → (kvs.any fun kv => decide (kv.1 = KeyT.key k)) = l.any fun p => decide (p.1 = k)
  | _, [], r => by rw [rpt_nil r]; rfl
  | _, p :: l, r => by
    obtain ⟨v, rest, rfl, h1, h2⟩ := rpt_cons r
    rw [List.any_cons, List.any_cons, rpt_any k h2]
    congr 1
    exact decide_eq_decide.mpr ⟨fun e => KeyT.inj _ _ e, fun e => congrArg _ e⟩
theorem rpt_put (k : κ) (x : α) {v : V} {kvs : List (List Key × V)} {l : List (κ × α)} (rv : Rp K F v (toD x)) (r : RpT K F kvs (encP l)) : RpT K F (putK kvs (KeyT.key k) v) (encP (putP l k x)) := by
  unfold putK putP
  rw [rpt_any k r]
  split
  · have : ∀ {kvs : List (List Key × V)} {l : List (κ × α)}, RpT K F kvs (encP l) → RpT K F (kvs.map fun kv => if kv.1 = KeyT.key k then (kv.1, v) else kv) (encP (l.map fun p => if p.1 = k then (p.1, x) else p)) := by
      intro kvs l r
      induction l generalizing kvs with
      | nil => rw [rpt_nil r]; exact .nil
      | cons p l ih =>
        obtain ⟨u, rest, rfl, h1, h2⟩ := rpt_cons r
        rw [List.map_cons, List.map_cons]
        by_cases h : p.1 = k
        · rw [if_pos (by rw [h]), if_pos h]; exact rpt_mk (p := (p.1, x)) rv (ih h2)
        · rw [if_neg (fun e => h (KeyT.inj _ _ e)), if_neg h]; exact rpt_mk (p := p) h1 (ih h2)
    exact this r
  · have : ∀ {kvs : List (List Key × V)} {l : List (κ × α)}, RpT K F kvs (encP l) → RpT K F (kvs ++ [(KeyT.key k, v)]) (encP (l ++ [(k, x)])) := by
      intro kvs l r
      induction l generalizing kvs with
      | nil => rw [rpt_nil r]; exact rpt_mk (p := (k, x)) rv (show RpT K F [] (encP ([] : List (κ × α))) from .nil)
      | cons p l ih =>
        obtain ⟨u, rest, rfl, h1, h2⟩ := rpt_cons r
        exact rpt_mk (p := p) h1 (ih h2)
    exact this r
theorem RpH.dt_of {v : V} {d : Dict κ α} (s : Sub F H) (r : RpH K F H v (toD d)) : ∃ a kvs, v = .ref a ∧ Rd H a (.dT kvs) ∧ RpT K F kvs (encP d.l) := by
  rw [dict_encT] at r
  rcases r with r | ⟨a, e, c⟩
  · cases r with
    | @dt a o kvs ds h1 h2 => exact ⟨a, kvs, rfl, .inr ⟨o, s _ _ h1⟩, h2⟩
  · obtain ⟨_, ⟨_, _, _, _, q⟩ | ⟨_, _, _, _, q⟩ | ⟨kvs, ds, h1, h2, q⟩⟩ := c <;> cases q
    exact ⟨a, kvs, e, .inl h1, h2⟩
theorem Rp.dt_of {v : V} {d : Dict κ α} (r : Rp K F v (toD d)) : ∃ a o kvs, v = .ref a ∧ F a = some (.frz o (.dT kvs)) ∧ RpT K F kvs (encP d.l) := by
  rw [dict_encT] at r
  cases r with
  | @dt a o kvs ds h1 h2 => exact ⟨a, o, kvs, rfl, h1, h2⟩
end
section
variable {X : Cx} {W : WX} {ρ : Rs} {pos : Pos} {κ α β γ δ S τ Ω : Type} [Enc κ] [DecidableEq κ] [DKey κ] [KeyT κ] [Enc α] [Enc β] [Enc γ] [Enc δ]
/-- d[k] -/
theorem XV.dgetT {o i : Expr} {mo : Res (Dict κ α)} {mk : Res κ} (hu : X.A.units + 64 < cLine) (ho : XW X W ρ o mo) (hi : XV X W ρ i mk) (hs : NoSl i := by intro _ _; rfl) : XV X W ρ (.Subscript o i pos) (do
    let d ← mo
    let k ← mk
    d.getR k) := by
  refine PE.imp (pe_dget (by omega) ho hi hs) fun σ H Q ⟨F0, H0, F, R, p⟩ => ⟨F0, H0, F, R, ?_⟩
  cases mo with
  | exc c i => exact p
  | stuck => exact p
  | ok d =>
    intro v F1 H1 g1 r1
    refine ⟨F0, H0, F1, R.grow g1, ?_⟩
    have p1 := PostV.grow g1 p
    cases mk with
    | exc c i => exact p1
    | stuck => exact p1
    | ok k =>
      intro u F2 H2 g2 r2
      have p2 : PostV X.K W F2 H2 ((d.getR k).map toD) Q := PostV.grow g2 p1
      obtain ⟨a, kvs, rfl, h1, h2⟩ := (r1.grow g2).dt_of g2.fh
      obtain ⟨b, rfl, hb⟩ := key_vT r2
      have q := rpt_val k h2
      unfold Dict.getR at p2
      cases e : valP d.l k with
      | none => rw [e] at p2; exact p2.elim
      | some x =>
        rw [e] at p2 q
        obtain ⟨w, e1, e2⟩ := q
        exact ⟨a, w, rfl, .inr ⟨kvs, _, b, h1, rfl, g2.fh _ _ hb, e1.symm⟩, p2 w F2 H2 (.refl g2.fh) e2⟩
theorem rp_keyT {K : PySem.W.Frag} {F H : Hp} {v : V} {k : κ} (r : RpH K F H v (toD k)) : Rp K F v (toD k) := by
  rcases r with r | ⟨b, e, c⟩
  · exact r
  · rw [KeyT.enc] at c
    obtain ⟨_, ⟨_, _, _, _, z⟩ | ⟨_, _, _, _, z⟩ | ⟨_, _, _, _, z⟩⟩ := c <;> cases z
theorem has_isT {K : PySem.W.Frag} {F : Hp} {kvs : List (List Key × V)} {d : Dict κ α} (k : κ) (r : RpT K F kvs (encP d.l)) : (valV kvs (KeyT.key k)).isSome = d.has k := by
  have hq := rpt_val k r
  unfold Dict.has
  cases e : valP d.l k with
  | none => rw [e] at hq; rw [hq]; rfl
  | some x => rw [e] at hq; obtain ⟨w, e1, _⟩ := hq; rw [e1]; rfl
/-- k in d -/
theorem c_inDT (hu : X.A.units + 64 < cLine) : CmpOk X .In (fun (k : κ) (d : Dict κ α) => d.has k) := fun pins s σ H vx vy u1 u2 Q I r1 r2 ⟨F, k, d, sf, q1, q2, q⟩ => by
  obtain ⟨a, kvs, rfl, h1, h2⟩ := q2.dt_of sf
  obtain ⟨b, rfl, hb⟩ := key_vT (rp_keyT q1)
  obtain rfl : u2 = Value.ref a := r2
  refine d_in (o := valV kvs (KeyT.key k)) (by omega) I (.inr ⟨kvs, _, b, h1, rfl, sf _ _ hb, rfl⟩) r1 fun s' I' => ⟨.bl _, H, I', rfl, ?_⟩
  rw [has_isT k h2]; exact q
theorem c_notinDT (hu : X.A.units + 64 < cLine) : CmpOk X .NotIn (fun (k : κ) (d : Dict κ α) => !d.has k) := fun pins s σ H vx vy u1 u2 Q I r1 r2 ⟨F, k, d, sf, q1, q2, q⟩ => by
  obtain ⟨a, kvs, rfl, h1, h2⟩ := q2.dt_of sf
  obtain ⟨b, rfl, hb⟩ := key_vT (rp_keyT q1)
  obtain rfl : u2 = Value.ref a := r2
  refine d_notIn (o := valV kvs (KeyT.key k)) (by omega) I (.inr ⟨kvs, _, b, h1, rfl, sf _ _ hb, rfl⟩) r1 fun s' I' => ⟨.bl _, H, I', rfl, ?_⟩
  rw [has_isT k h2]; exact q
/-- {} -/
theorem XF.dnilT : XF X W ρ (.Dict [] [] pos) (.ok (⟨[]⟩ : Dict κ α)) := PE.imp pe_dnewT fun σ H Q ⟨F0, H0, F, R, p⟩ q nq =>
  p q F _ (.own R.fh nq) nq ⟨sub_free R.fh nq, .inr (.inr ⟨[], _, upd_same, .nil, dict_encT _⟩)⟩
/-- d[k] = v, d this name's own -/
theorem XB.dputT (k i : Nat) (ks : List Nat) {nm : Str} {e ix : Expr} {p1 p2 : Pos} {d : Dict κ α} {rest : List Stmt} {me : Res α} {mk : Res κ} {mr : Dict κ α → Res τ} {fin : τ → Fi} (ρ' : Dict κ α → Rs) (hu : X.A.units + 64 < cLine) (hk : ρ[k]? = some (i, SV.ow (toD d))) (he : XV X W ρ e me) (hi : XV X W ρ ix mk)
    (hr : ∀ ys, XB X W (ρ' ys) rest (mr ys) fin) (hρ : ∀ ys, ρ' ys = (i, SV.ow (toD ys)) :: keepAt ρ ks := by intro _; rfl) (ho : okK ρ [i] ks = true := by rfl) (hN : X.N[i]? = some nm := by rfl) (hv : Vis X.env.scope nm := by first | exact Or.inl rfl | exact Or.inr (Or.inl rfl) | exact Or.inr (Or.inr rfl))
    (hd : (nm == ("__debug__" : Str)) = false := by decide) (hcd : (nm == ("__classdict__" : Str)) = false := by decide) (hs : swapsWith e (some (.Subscript (.Name nm p1) ix p2)) pos.line X.env = pure false := by rfl) :
    XB X W ρ (.Assign [.Subscript (.Name nm p1) ix p2] e pos :: rest) (do
    let x ← me
    let k ← mk
    let ys ← d.putR k x
    mr ys) fin := by
  refine PSs.imp (pss_cons (ps_dput (by omega) (pe_var hN hv hd hcd) hi he hs) (PSs.ex hr)) fun D σ H ⟨F0, H0, F, R, p⟩ => ⟨F0, H0, F, R, ?_⟩
  have q := PostS.bind R p
  cases me with
  | exc c i => exact q
  | stuck => exact q
  | ok x =>
    intro v F1 H1 g1 r1
    have R1 := R.grow g1
    have p1 : PostS X.K X.N.length W F0 H0 F1 (mk >>= fun k => d.putR k x >>= mr) fin D := PostS.sub g1.f p
    have hm := List.mem_of_getElem? hk
    obtain ⟨a, ea, c, z⟩ := R1.ow i _ hm
    refine ⟨.ref a, ea, F0, H0, F1, R1, ?_⟩
    have q1 := PostS.bind R1 p1
    cases mk with
    | exc c i => exact q1
    | stuck => exact q1
    | ok kk =>
      intro y F2 H2 g2 r2
      have R2 := R1.grow g2
      have p2 := PostS.sub g2.f p1
      have c2 := c.grow g2
      rw [dict_encT] at c2
      obtain ⟨fa, ⟨_, _, _, _, w⟩ | ⟨_, _, _, _, w⟩ | ⟨kvs, ds, h1, h2, w⟩⟩ := id c2 <;> cases w
      obtain ⟨b, rfl, hb⟩ := key_vT r2
      have p3 : PostS X.K X.N.length W F0 H0 F2 (d.putR kk x >>= mr) fin D := p2
      cases ep : d.putR kk x with
      | exc c i => unfold Dict.putR at ep; split at ep <;> cases ep
      | stuck => rw [ep] at p3; exact p3.elim
      | ok ys =>
        rw [ep] at p3
        unfold Dict.putR at ep
        split at ep
        · rename_i hl
          cases ep
          have hlen : kvs.length < sizeLine := by rw [rpt_len h2, ← lim_line]; exact hl
          refine ⟨a, upd H2 a (.dT (putK kvs (KeyT.key kk) v)), rfl, .t h1 (g2.fh _ _ hb) hlen, ⟨putP d.l kk x⟩, F0, H0, F2, ?_, p3⟩
          exact R2.mut hm ea ⟨fa, .inr (.inr ⟨_, _, upd_same, rpt_put kk x (r1.sub g2.f) h2, dict_encT _⟩)⟩ (by rw [hρ]; exact put_w ho)
        · cases ep
/-- d.get(k, x) -/
theorem XV.get2T {o e f : Expr} {p1 : Pos} {mo : Res (Dict κ α)} {mk : Res κ} {mx : Res α} (hu : X.A.units + 64 < cLine) (ho : XW X W ρ o mo) (hi : XV X W ρ e mk) (hf : XV X W ρ f mx) (m : M2 X o "get" p1 e f pos := by exact ⟨rfl, rfl, rfl, rfl⟩) : XV X W ρ (.Call (.Attribute o "get" p1) [e, f] [] pos) (do
    let d ← mo
    let k ← mk
    let x ← mx
    Res.ok ((valP d.l k).getD x)) := by
  refine PE.imp (pe_dget2 (by omega) ho hi hf m) fun σ H Q ⟨F0, H0, F, R, p⟩ => ⟨F0, H0, F, R, ?_⟩
  cases mo with
  | exc c i => exact p
  | stuck => exact p
  | ok d =>
    intro v F1 H1 g1 r1
    obtain ⟨a, kvs, rfl, h1, h2⟩ := r1.dt_of g1.fh
    refine ⟨a, rfl, .inr ⟨kvs, h1⟩, F0, H0, F1, R.grow g1, ?_⟩
    have p1 := PostV.grow g1 p
    cases mk with
    | exc c i => exact p1
    | stuck => exact p1
    | ok k =>
      intro u F2 H2 g2 r2
      refine ⟨F0, H0, F2, (R.grow g1).grow g2, ?_⟩
      have p2 := PostV.grow g2 p1
      cases mx with
      | exc c i => exact p2
      | stuck => exact p2
      | ok x =>
        intro z F3 H3 g3 r3
        have p3 : PostV X.K W F3 H3 ((Res.ok ((valP d.l k).getD x)).map toD) Q := PostV.grow g3 p2
        obtain ⟨b, rfl, hb⟩ := key_vT r2
        obtain ⟨a', kvs', e', h1', h2'⟩ := ((r1.grow g2).grow g3).dt_of g3.fh
        cases e'
        have q := rpt_val k h2'
        cases e : valP d.l k with
        | none => rw [e] at p3 q; exact ⟨none, .inr ⟨kvs', _, b, h1', rfl, g3.fh _ _ (g3.f _ _ hb), q.symm⟩, p3 z F3 H3 (.refl g3.fh) r3⟩
        | some y =>
          rw [e] at p3 q
          obtain ⟨w, e1, e2⟩ := q
          exact ⟨some w, .inr ⟨kvs', _, b, h1', rfl, g3.fh _ _ (g3.f _ _ hb), e1.symm⟩, p3 w F3 H3 (.refl g3.fh) e2⟩
end
end Vs
end
section
set_option Elab.async false
set_option linter.all false
set_option maxRecDepth 100000
set_option maxHeartbeats 2000000
/-! Vs27: what is walked, further: constants, tuples, d.items(), d.values(). -/
namespace Vs
open Enc (toD)
open PySem PySem.Spec PyProof.Rows L2
/-- the pairs of a dict with tuple keys, each a new tuple -/
def Itit (d : Addr) (o : Obj) (kvs : List (List Key × V)) : It :=
  ⟨fun i H => H d = some (.frz o (.dT kvs)) ∧ i < kvs.length, fun i H x H' => ∃ (T : Addr) (k : List Key) (v : V) (q : Addr), kvs[i]? = some (k, v) ∧ H q = some (.tup (k.map kV)) ∧ x = .ref T ∧ H T = none ∧ H' = upd H T (.tup [.ref q, v]), fun i H => H d = some (.frz o (.dT kvs)) ∧ kvs.length ≤ i⟩
theorem inv_frzT {X : Cx} {pins : List (Addr × Obj)} {σ : St} {H : Hp} {s : Shared} {d : Addr} {o : Obj} {kvs : List (List Key × V)} (I : Inv X pins σ H s) (h : H d = some (.frz o (.dT kvs))) :
    (d == sysModules) = false ∧ s.heap.get? d = some o ∧ o.ExactDict ∧ ∃ (es : Array DictEntry) (ep : Nat), o.data = .dict es ep ∧ es.size = kvs.length ∧ kvs.length ≤ sizeLine ∧
      ∀ (i : Nat) (k : List Key) (v : V), kvs[i]? = some (k, v) → ∃ (en : DictEntry) (q : Addr), es[i]? = some en ∧ en.key = .ref q ∧ H q = some (.tup (k.map kV)) ∧ RelV v en.val := by
  obtain ⟨hd, z, hs, xs, pr, o', es, ep, ho, hx, hdt, he, _⟩ := I.hok d _ h
  rw [hd] at ho
  cases ho
  refine ⟨hs, hd, hx, es, ep, hdt, ?_, z, fun i k v e => ?_⟩
  · have l1 : es.size = xs.length := size_of_entries he
    have l2 : kvs.length = xs.length := Paired.length pr
    omega
  · obtain ⟨b, hb, e1, e2, e3⟩ := paired_get pr e
    have q := entry_at he i
    rw [hb] at q
    exact ⟨_, b.2.1, q, rfl, e2, e3⟩
section
variable {P : Program} {w : World} {K : PySem.W.Frag} {d : Addr} {o : Obj} {es : Array DictEntry} {ep : Nat}
theorem turn_itemsT {kvs : List (List Key × V)} {elts : List Expr} {kk : Nat} {tpos : Pos} (it : Addr) (hod : o.data = .dict es ep) :
    Turn P w K (.Tuple elts kk tpos) (Itit d o kvs) [it] it (fun i h => ∃ ok ov, IsItemIter h it d i kvs.length ep ok ov) where
  mem := by simp
  obj := fun i h st b hb => by
    obtain rfl : b = it := by simpa using hb
    obtain ⟨ok, ov, e⟩ := st
    exact ⟨_, e, fun v z => nomatch z⟩
  keep := fun i h h' st k => let ⟨ok, ov, e⟩ := st; ⟨ok, ov, k it (by simp) _ e⟩
  item := by
    intro X hP hw hK hc i pins s σ H E I hf st ⟨hd, hi⟩
    subst hP hw hK
    obtain ⟨hs, hgd, hx, es', ep', hdt, hsz, hz, ent⟩ := inv_frzT I hd
    obtain ⟨rfl, rfl⟩ := dict_ep hod hdt
    obtain ⟨⟨k, v⟩, hkv⟩ : ∃ p, kvs[i]? = some p := ⟨kvs[i], List.getElem?_eq_getElem hi⟩
    obtain ⟨en, q, hen, hkey, hq, rv⟩ := ent i k v hkv
    obtain ⟨ok, ov, he⟩ := st
    rw [← hsz] at he
    have hlt : it < s.heap.objs.size := Heap.lt_size he
    have hie : i < es'.size := by omega
    have een : es'[i] = en := by
      rw [Array.getElem?_eq_getElem hie] at hen
      exact Option.some.inj hen
    refine DT.nextI he ⟨o, hgd, hx, hod⟩ hie fun h' ho hT hz' hk => ?_
    rw [een] at ho hT
    refine ⟨_, rfl, wpAny_letOwnedTupleGo_items (s := { s with heap := h' }) ho fun h'' he' sb => ?_⟩
    have hT2 : h''.get? s.heap.objs.size = some { cls := .type "tuple", data := .seq #[en.key, en.val] } := (sb.2 _ (Nat.ne_of_gt hlt)).trans hT
    have new : ObjOk X.prog X.w (upd H s.heap.objs.size (.tup [.ref q, v])) h'' s.heap.objs.size (.tup [.ref q, v]) :=
      ⟨by show 2 ≤ sizeLine; decide, [en.key, en.val], .cons (by rw [hkey]; rfl) (.cons rv .nil), ⟨_, hT2, rfl, _, rfl⟩⟩
    have I1 : Inv X pins σ (upd H s.heap.objs.size (.tup [.ref q, v])) { s with heap := h'' } :=
      I.turnedNew (t' := s.toks) (ch := [it]) (fun b ob hb e => (sb.2 b (by simpa using hb)).trans (hk b ob (by simpa using hb) e)) hf (Nat.le_refl _) new
    refine ⟨.ref s.heap.objs.size, _, I1, rfl, ⟨_, k, v, q, hkv, hq, rfl, I.hok.fresh (Nat.le_refl _), rfl⟩, ⟨en.key, en.val, ?_⟩, fun b hb => ?_⟩
    · rw [← hsz]; exact he'
    · obtain rfl : b = it := by simpa using hb
      rw [upd_ne (Nat.ne_of_lt hlt)]
      exact (hf b (by simp)).1
  done := by
    intro X hP hw hK hc i pins s σ H E I hf st ⟨hd, hi⟩
    subst hP hw hK
    obtain ⟨f0, f1, f2, f3, f4, f5⟩ := hf it (by simp)
    obtain ⟨hs, hgd, hx, es', ep', hdt, hsz, hz, ent⟩ := inv_frzT I hd
    obtain ⟨rfl, rfl⟩ := dict_ep hod hdt
    obtain ⟨ok, ov, he⟩ := st
    rw [← hsz] at he
    exact DT.endI (I.ok.hd hc) he ⟨o, hgd, hx, hod⟩ (by omega) fun h' eb => ⟨rfl, I.turned (t' := s.toks) (fun b ob hb e => eb b ob hb e) f0 f1 f3 f4 f5⟩
  self := fun A i s Q E st h => let ⟨_, _, e⟩ := st; PySem.W.kcp_self e h
end
section
variable {X : Cx} {tg e : Expr} {td : TE} {apos cpos : Pos}
theorem pi_itemsT {elts : List Expr} {kk : Nat} {tpos : Pos} (he : PE X e td) (hbase : attributeBase e "items" X.env (eval e X.env) = eval e X.env := by rfl) (hline : (apos.endLine == cpos.line) = true := by rfl) :
    PI X (.Tuple elts kk tpos) (.Call (.Attribute e "items" apos) [] [] cpos) (fun σ H R => td σ H fun x H1 => ∃ d o kvs, x = .ref d ∧ H1 d = some (.frz o (.dT kvs)) ∧ R (Itit d o kvs) H1) := by
  refine ⟨fun pins s σ H R I h => ?_⟩
  refine wpAny_Call_method (T := "dict") (id := "dict.items") hbase rfl hline F.plainAttrs_dict F.slot_dict_items F.type_dict_items (thn (he.run pins s σ H _ I h) fun u s1 ⟨x, H1, I1, rx, d, o, kvs, ex, hd, q⟩ => ?_)
  subst ex
  obtain rfl : u = Value.ref d := rx
  obtain ⟨hs, hgd, hx, es, ep, hdt, hsz, hz, ent⟩ := inv_frzT I1 hd
  have raw : DT.Raw s1.heap d es ep := ⟨o, hgd, hx, hdt⟩
  refine ⟨raw.typeIs, fun b e => ?_, ?_⟩
  · cases e
    exact ⟨o, hgd, hx.2.1⟩
  have I2 : Inv X pins σ H1 { s1 with heap := s1.heap.push { cls := .type "dict_items", data := .fields #[.ref d] } } := I1.kept (t' := s1.toks) fun b ob q => Heap.get?_push_of_some _ q
  have fin : wpAny (model X.prog X.w) X.A (pyIter (.ref s1.heap.objs.size)) (PIE X pins σ (.Tuple elts kk tpos) R) X.xe { s1 with heap := s1.heap.push { cls := .type "dict_items", data := .fields #[.ref d] } } := by
    refine DT.iterI (s := { s1 with heap := s1.heap.push { cls := .type "dict_items", data := .fields #[.ref d] } }) (v := s1.heap.objs.size) (d := d) (es := es) (ep := ep) ⟨_, Heap.get?_push_size _ rfl, rfl, rfl⟩ (raw.push _) (pi_one (tk := s1.toks) I2 _ (turn_itemsT _ hdt) ⟨.none, .none, ?_⟩ q)
    rw [← hsz]
    exact Heap.get?_push_size _ rfl
  show wpAny _ _ (callWith cpos (.builtin "dict.items") [.ref d] [] []) _ X.xe s1
  exact method_meetsIn F.slot_dict_items F.entry_dict_items rfl (PySem.evalArgs_none ⟨rfl, raw.typeIs, F.args_dict_items_1 _, _, DT.meetsItems (es := es) (ep := ep) hs, raw, fin⟩)
end
section
variable {X : Cx} {W : WX} {ρ : Rs} {pos : Pos} {κ α β γ δ S τ Ω : Type} [Enc κ] [DecidableEq κ] [DKey κ] [Enc α] [Enc β] [Enc γ] [Enc δ]
theorem it_itemsT [KeyT κ] {K : PySem.W.Frag} {F : Hp} {a : Addr} {o : Obj} {kvs : List (List Key × V)} {l : List (κ × α)} (e : F a = some (.frz o (.dT kvs))) (r : RpT K F kvs (encP l)) : ItOk K (Itit a o kvs) F (l.map toD) := by
  have hl : kvs.length = l.length := rpt_len r
  refine ⟨fun i F1 H1 s1 s2 hi => ?_, fun i F1 H1 d x H2 s1 s2 hd hy => ?_, fun i F1 H1 s1 s2 hi => ?_⟩
  · exact ⟨s2 _ _ (s1 _ _ e), by simpa [hl] using hi⟩
  · obtain ⟨T, k, v, q, hk, hq, rfl, hT, rfl⟩ := hy
    have get : ∀ {kvs : List (List Key × V)} {l : List (κ × α)} {i : Nat} {k : List Key} {v : V}, RpT K F kvs (encP l) → kvs[i]? = some (k, v) → ∃ p, l[i]? = some p ∧ k = KeyT.key p.1 ∧ Rp K F v (toD p.2) := by
      intro kvs l
      induction l generalizing kvs with
      | nil => intro i k v r hk; rw [rpt_nil r] at hk; simp at hk
      | cons p l ih =>
        intro i k v r hk
        obtain ⟨u, rest, rfl, h1, h2⟩ := rpt_cons r
        cases i with
        | zero => simp at hk; obtain ⟨rfl, rfl⟩ := hk; exact ⟨p, rfl, rfl, h1⟩
        | succ i => simp at hk; obtain ⟨p', e1, e2, e3⟩ := ih h2 hk; exact ⟨p', by simpa using e1, e2, e3⟩
    obtain ⟨p, e1, rfl, e3⟩ := get r hk
    rw [List.getElem?_map, e1] at hd
    cases hd
    have s3 : ∀ o, F1 q = some o → o = .tup ((KeyT.key p.1).map kV) := fun o e => by
      have := s2 _ _ e
      rw [hq] at this; cases this; rfl
    have g1 : Grow F1 H1 (upd F1 q (.tup ((KeyT.key p.1).map kV))) H1 := ⟨fun b o e => by
      by_cases h : b = q
      · subst h; rw [upd_same, s3 o e]
      · rw [upd_ne h]; exact e, fun _ _ e => e, fun b o e => by
      by_cases h : b = q
      · subst h; rw [upd_same] at e; rw [← e]; exact hq
      · rw [upd_ne h] at e; exact s2 b o e, fun b hb => upd_ne fun h => by
      subst h
      exact hb.2 _ hq⟩
    have g2 := g1.trans (.new (o := .tup [.ref q, v]) g1.fh hT)
    refine ⟨_, g2, ?_⟩
    have sT : Sub (upd F1 q (.tup ((KeyT.key p.1).map kV))) (upd (upd F1 q (.tup ((KeyT.key p.1).map kV))) T (.tup [.ref q, v])) := sub_upd (sub_free g1.fh hT)
    refine .tup upd_same (.cons ?_ (.cons ((e3.sub s1).sub g2.f) .nil))
    rw [KeyT.enc]
    exact .tup (sT _ _ upd_same) (keys_rp _)
  · exact ⟨s2 _ _ (s1 _ _ e), by simpa [hl] using hi⟩
/-- for k, v in d.items() -/
theorem XI.itemsT [KeyT κ] {e : Expr} {apos cpos tpos : Pos} {elts : List Expr} {kk : Nat} {m : Res (Dict κ α)} (he : XV X W ρ e m) (hbase : attributeBase e "items" X.env (eval e X.env) = eval e X.env := by rfl) (hline : (apos.endLine == cpos.line) = true := by rfl) :
    XI X W ρ (.Tuple elts kk tpos) (.Call (.Attribute e "items" apos) [] [] cpos) (do
    let d ← m
    Res.ok d.l) := by
  refine ⟨fun pins s σ H R I ⟨F0, H0, F, Rh, p⟩ => ?_⟩
  cases m with
  | exc c i => exact (pi_itemsT (elts := elts) (kk := kk) (tpos := tpos) he hbase hline).run pins s σ H R I ⟨F0, H0, F, Rh, p⟩
  | stuck => exact p.elim
  | ok d =>
    refine (pi_itemsT (elts := elts) (kk := kk) (tpos := tpos) (td := fun σ H Q => rdV X.K X.N.length W ρ (.ok (toD d)) σ H fun v H1 => (∀ a o kvs, H1 a = some (.frz o (.dT kvs)) → kvs.length ≤ sizeLine) → Q v H1) ?_ hbase hline).run pins s σ H R I ⟨F0, H0, F, Rh, fun v F1 H1 g r hz => ?_⟩
    · exact ⟨fun pins s σ H Q I q => thn (he.run pins s σ H _ I q) fun u s1 ⟨v, H1, I1, r, q1⟩ => ⟨v, H1, I1, r, q1 fun a o kvs e => (inv_frzT I1 e).2.2.2.choose_spec.choose_spec.2.2.1⟩⟩
    · obtain ⟨a, o, kvs, rfl, h1, h2⟩ := r.dt_of
      refine ⟨a, o, kvs, rfl, g.fh _ _ h1, p _ F1 H1 g (it_itemsT h1 h2) ?_⟩
      have := hz a o kvs (g.fh _ _ h1)
      rw [List.length_map, ← rpt_len h2]
      exact this
theorem it_items [KeyK κ] {K : PySem.W.Frag} {F : Hp} {a : Addr} {o : Obj} {kvs : List (Key × V)} {l : List (κ × α)} (e : F a = some (.frz o (.dK kvs))) (r : RpK K F kvs (encP l)) : ItOk K (Iti a o kvs) F (l.map toD) := by
  have hl : kvs.length = l.length := rpk_len r
  refine ⟨fun i F1 H1 s1 s2 hi => ?_, fun i F1 H1 d x H2 s1 s2 hd hy => ?_, fun i F1 H1 s1 s2 hi => ?_⟩
  · exact ⟨s2 _ _ (s1 _ _ e), by simpa [hl] using hi⟩
  · obtain ⟨T, k, v, hk, rfl, hT, rfl⟩ := hy
    have get : ∀ {kvs : List (Key × V)} {l : List (κ × α)} {i : Nat} {k : Key} {v : V}, RpK K F kvs (encP l) → kvs[i]? = some (k, v) → ∃ p, l[i]? = some p ∧ k = KeyK.key p.1 ∧ Rp K F v (toD p.2) := by
      intro kvs l
      induction l generalizing kvs with
      | nil => intro i k v r hk; rw [rpk_nil r] at hk; simp at hk
      | cons p l ih =>
        intro i k v r hk
        obtain ⟨u, rest, rfl, h1, h2⟩ := rpk_cons r
        cases i with
        | zero => simp at hk; obtain ⟨rfl, rfl⟩ := hk; exact ⟨p, rfl, rfl, h1⟩
        | succ i => simp at hk; obtain ⟨p', e1, e2, e3⟩ := ih h2 hk; exact ⟨p', by simpa using e1, e2, e3⟩
    obtain ⟨p, e1, rfl, e3⟩ := get r hk
    rw [List.getElem?_map, e1] at hd
    cases hd
    have g2 : Grow F1 H1 (upd F1 T (.tup [kV (KeyK.key p.1), v])) (upd H1 T (.tup [kV (KeyK.key p.1), v])) := .new s2 hT
    refine ⟨_, g2, .tup upd_same (.cons ?_ (.cons ((e3.sub s1).sub g2.f) .nil))⟩
    rw [KeyK.enc]
    cases KeyK.key p.1 with
    | inl i => exact .int i
    | inr x => exact .str x
  · exact ⟨s2 _ _ (s1 _ _ e), by simpa [hl] using hi⟩
theorem XI.items [KeyK κ] {e : Expr} {apos cpos tpos : Pos} {elts : List Expr} {kk : Nat} {m : Res (Dict κ α)} (he : XV X W ρ e m) (hbase : attributeBase e "items" X.env (eval e X.env) = eval e X.env := by rfl) (hline : (apos.endLine == cpos.line) = true := by rfl) :
    XI X W ρ (.Tuple elts kk tpos) (.Call (.Attribute e "items" apos) [] [] cpos) (do
    let d ← m
    Res.ok d.l) := by
  refine ⟨fun pins s σ H R I ⟨F0, H0, F, Rh, p⟩ => ?_⟩
  cases m with
  | exc c i => exact (pi_items (elts := elts) (kk := kk) (tpos := tpos) he hbase hline).run pins s σ H R I ⟨F0, H0, F, Rh, p⟩
  | stuck => exact p.elim
  | ok d =>
    refine (pi_items (elts := elts) (kk := kk) (tpos := tpos) (td := fun σ H Q => rdV X.K X.N.length W ρ (.ok (toD d)) σ H fun v H1 => (∀ a o kvs, H1 a = some (.frz o (.dK kvs)) → kvs.length ≤ sizeLine) → Q v H1) ?_ hbase hline).run pins s σ H R I ⟨F0, H0, F, Rh, fun v F1 H1 g r hz => ?_⟩
    · exact ⟨fun pins s σ H Q I q => thn (he.run pins s σ H _ I q) fun u s1 ⟨v, H1, I1, r, q1⟩ => ⟨v, H1, I1, r, q1 fun a o kvs e => (dk_rd I1.hok (.inr ⟨o, e⟩)).1⟩⟩
    · obtain ⟨a, o, kvs, rfl, h1, h2⟩ := r.dk_of
      refine ⟨a, o, kvs, rfl, g.fh _ _ h1, p _ F1 H1 g (it_items h1 h2) ?_⟩
      have := hz a o kvs (g.fh _ _ h1)
      rw [List.length_map, ← rpk_len h2]
      exact this
/-- d.get(k, x), plain keys -/
theorem XV.get2 [KeyK κ] {o e f : Expr} {p1 : Pos} {mo : Res (Dict κ α)} {mk : Res κ} {mx : Res α} (hu : X.A.units + 64 < cLine) (ho : XW X W ρ o mo) (hi : XV X W ρ e mk) (hf : XV X W ρ f mx) (m : M2 X o "get" p1 e f pos := by exact ⟨rfl, rfl, rfl, rfl⟩) : XV X W ρ (.Call (.Attribute o "get" p1) [e, f] [] pos) (do
    let d ← mo
    let k ← mk
    let x ← mx
    Res.ok ((valP d.l k).getD x)) := by
  refine PE.imp (pe_dget2 (by omega) ho hi hf m) fun σ H Q ⟨F0, H0, F, R, p⟩ => ⟨F0, H0, F, R, ?_⟩
  cases mo with
  | exc c i => exact p
  | stuck => exact p
  | ok d =>
    intro v F1 H1 g1 r1
    obtain ⟨a, kvs, rfl, h1, h2⟩ := r1.dk_of g1.fh
    refine ⟨a, rfl, .inl ⟨kvs, h1⟩, F0, H0, F1, R.grow g1, ?_⟩
    have p1 := PostV.grow g1 p
    cases mk with
    | exc c i => exact p1
    | stuck => exact p1
    | ok k =>
      intro u F2 H2 g2 r2
      refine ⟨F0, H0, F2, (R.grow g1).grow g2, ?_⟩
      have p2 := PostV.grow g2 p1
      cases mx with
      | exc c i => exact p2
      | stuck => exact p2
      | ok x =>
        intro z F3 H3 g3 r3
        have p3 : PostV X.K W F3 H3 ((Res.ok ((valP d.l k).getD x)).map toD) Q := PostV.grow g3 p2
        obtain rfl := key_v r2
        obtain ⟨a', kvs', e', h1', h2'⟩ := ((r1.grow g2).grow g3).dk_of g3.fh
        cases e'
        have q := rpk_val k h2'
        cases e : valP d.l k with
        | none => rw [e] at p3 q; exact ⟨none, .inl ⟨kvs', _, h1', rfl, q.symm⟩, p3 z F3 H3 (.refl g3.fh) r3⟩
        | some y =>
          rw [e] at p3 q
          obtain ⟨w, e1, e2⟩ := q
          exact ⟨some w, .inl ⟨kvs', _, h1', rfl, e1.symm⟩, p3 w F3 H3 (.refl g3.fh) e2⟩
/-- for x in t, t a tuple of one kind, or a constant -/
theorem it_tupI {K : PySem.W.Frag} {F : Hp} {a : Addr} {xs : List V} {ds : List PyData} (e : ∀ F1 H1 : Hp, Sub F F1 → Sub F1 H1 → SqT K H1 a xs) (r : RpAll K F xs ds) : ItOk K (Itt K a) F ds := by
  refine ⟨fun i F1 H1 s1 s2 hi => ?_, fun i F1 H1 d x H2 s1 s2 hd hy => ?_, fun i F1 H1 s1 s2 hi => ?_⟩
  · have hi' : i < xs.length := by rw [r.length]; exact hi
    exact ⟨xs, xs[i], e F1 H1 s1 s2, by simp [hi']⟩
  · obtain ⟨rfl, hx⟩ := hy
    have hx' := hx xs (e F1 _ s1 s2)
    obtain ⟨v, h1, h2⟩ := r.get hd
    rw [hx'] at h1; cases h1
    exact ⟨F1, .refl s2, h2.sub s1⟩
  · exact ⟨xs, e F1 H1 s1 s2, by rw [r.length]; exact hi⟩
theorem XI.tupG {tg e : Expr} {m : Res β} {f : β → List α} (hl : ∀ {K : PySem.W.Frag} {F : Hp} {v : V} {x : β}, Rp K F v (toD x) → ∃ a xs, v = .ref a ∧ (∀ F1 H1 : Hp, Sub F F1 → Sub F1 H1 → SqT K H1 a xs) ∧ RpAll K F xs ((f x).map toD)) (he : XV X W ρ e m) : XI X W ρ tg e (do
    let t ← m
    Res.ok (f t)) := by
  refine ⟨fun pins s σ H R I ⟨F0, H0, F, Rh, p⟩ => ?_⟩
  cases m with
  | exc c i => exact (pi_tup (tg := tg) he).run pins s σ H R I ⟨F0, H0, F, Rh, p⟩
  | stuck => exact p.elim
  | ok t =>
    refine (pi_tup (tg := tg) (tl := fun σ H Q => rdV X.K X.N.length W ρ (.ok (toD t)) σ H fun v H1 => (∀ a xs, SqT X.K H1 a xs → xs.length ≤ sizeLine) → Q v H1) ?_).run pins s σ H R I ⟨F0, H0, F, Rh, fun v F1 H1 g r hz => ?_⟩
    · exact ⟨fun pins s σ H Q I q => thn (he.run pins s σ H _ I q) fun u s1 ⟨v, H1, I1, r, q1⟩ => ⟨v, H1, I1, r, q1 fun a xs e => by
        obtain ⟨its, rv, pl, hz⟩ := I1.tuple e
        first | exact hz | (rw [rv.length]; exact hz)⟩⟩
    · obtain ⟨a, xs, rfl, h1, h2⟩ := hl r
      have q := h1 F1 H1 (fun _ _ e => e) g.fh
      exact ⟨a, rfl, ⟨xs, q⟩, p _ F1 H1 g (it_tupI h1 h2) (by rw [← h2.length]; exact hz a xs q)⟩
theorem XI.tup {tg e : Expr} {m : Res (Tup α)} (he : XV X W ρ e m) : XI X W ρ tg e (do
    let t ← m
    Res.ok t.l) := XI.tupG (f := fun t : Tup α => t.l) (fun r => by
  obtain ⟨a, xs, e, h1, h2⟩ := Rp.tup_at r
  exact ⟨a, xs, e, fun F1 H1 s1 s2 => .inl (.inl (s2 _ _ (s1 _ _ h1))), h2⟩) he
theorem XI.ctup {tg e : Expr} {m : Res (CTup α)} (he : XV X W ρ e m) : XI X W ρ tg e (do
    let t ← m
    Res.ok t.l) := XI.tupG (f := fun t : CTup α => t.l) (fun r => by
  cases r with
  | ctup h1 h2 => exact ⟨_, _, rfl, fun F1 H1 s1 s2 => h1 H1, h2⟩) he
end
end Vs
end
section
set_option Elab.async false
set_option linter.all false
set_option maxRecDepth 100000
set_option maxHeartbeats 2000000
/-! Vs28: unpacking of lists; constants named by the head. -/
namespace Vs
open Enc (toD)
open PySem PySem.Spec PyProof.Rows L2
theorem Res.ok_bind2 {α β : Type} (a : α) (f : α → Res β) : (Res.ok a >>= f) = f a := (Res.ok_bind a f).trans (Eq.refl _)
/-- x in xs -/
def memB {α : Type} [DecidableEq α] (x : α) (xs : List α) : Bool := decide (x ∈ xs)
theorem memB_eq {α : Type} [DecidableEq α] {x : α} {xs : List α} : memB x xs = decide (x ∈ xs) := rfl
theorem memB_iff {α : Type} [DecidableEq α] {x : α} {xs : List α} : memB x xs = true ↔ x ∈ xs := decide_eq_true_iff
section
variable {X : Cx} {α : Type} [Enc α]
theorem c_inB {k : Nat} [DecidableEq α] [PyEq α] (hr : Room (k + 1) X.A) (h : PyEq.dp α ≤ 58 := by decide) : CmpOk X .In (fun (a : α) (xs : List α) => memB a xs) := c_in hr h
theorem c_notinB {k : Nat} [DecidableEq α] [PyEq α] (hr : Room (k + 1) X.A) (h : PyEq.dp α ≤ 58 := by decide) : CmpOk X .NotIn (fun (a : α) (xs : List α) => !memB a xs) := c_notin hr h
end
/-- lists of just so many items -/
structure U2 (α β : Type) where
  (a : α) (b : β)
structure U3 (α β γ : Type) where
  (a : α) (b : β) (c : γ)
structure U4 (α β γ δ : Type) where
  (a : α) (b : β) (c : γ) (d : δ)
instance {α β : Type} [Enc α] [Enc β] : Enc (U2 α β) := ⟨fun u => .list [toD u.a, toD u.b]⟩
instance {α β γ : Type} [Enc α] [Enc β] [Enc γ] : Enc (U3 α β γ) := ⟨fun u => .list [toD u.a, toD u.b, toD u.c]⟩
instance {α β γ δ : Type} [Enc α] [Enc β] [Enc γ] [Enc δ] : Enc (U4 α β γ δ) := ⟨fun u => .list [toD u.a, toD u.b, toD u.c, toD u.d]⟩
def unL2 {α : Type} : List α → Res (U2 α α)
  | [a, b] => .ok ⟨a, b⟩
  | _ => .stuck
def unL3 {α : Type} : List α → Res (U3 α α α)
  | [a, b, c] => .ok ⟨a, b, c⟩
  | _ => .stuck
def unL4 {α : Type} : List α → Res (U4 α α α α)
  | [a, b, c, d] => .ok ⟨a, b, c, d⟩
  | _ => .stuck
section
variable {X : Cx} {W : WX} {ρ : Rs} {pos : Pos} {α β γ δ S τ Ω : Type} [Enc α] [Enc β] [Enc γ] [Enc δ]
theorem XV.recast {e : Expr} {m : Res α} {f : α → Res β} (h : XV X W ρ e m) (hf : ∀ x, f x = .stuck ∨ ∃ y, f x = .ok y ∧ toD y = toD x) : XV X W ρ e (m >>= f) := PE.imp h fun σ H Q ⟨F0, H0, F, R, p⟩ => ⟨F0, H0, F, R, by
  cases m with
  | exc c i => exact p
  | stuck => exact p
  | ok x =>
    have p : PostV X.K W F H ((f x).map toD) Q := p
    rcases hf x with e | ⟨y, e, q⟩
    · rw [e] at p; exact p.elim
    · rw [e] at p
      have p : PostV X.K W F H (.ok (toD y)) Q := p
      rw [q] at p; exact p⟩
theorem XV.unL2 {e : Expr} {m : Res (List α)} (h : XV X W ρ e m) : XV X W ρ e (m >>= Vs.unL2) := h.recast fun x => by
  match x with
  | [a, b] => exact .inr ⟨_, rfl, rfl⟩
  | [] => exact .inl rfl
  | [_] => exact .inl rfl
  | _ :: _ :: _ :: _ => exact .inl rfl
theorem XV.unL3 {e : Expr} {m : Res (List α)} (h : XV X W ρ e m) : XV X W ρ e (m >>= Vs.unL3) := h.recast fun x => by
  match x with
  | [a, b, c] => exact .inr ⟨_, rfl, rfl⟩
  | [] => exact .inl rfl
  | [_] => exact .inl rfl
  | [_, _] => exact .inl rfl
  | _ :: _ :: _ :: _ :: _ => exact .inl rfl
theorem XV.unL4 {e : Expr} {m : Res (List α)} (h : XV X W ρ e m) : XV X W ρ e (m >>= Vs.unL4) := h.recast fun x => by
  match x with
  | [a, b, c, d] => exact .inr ⟨_, rfl, rfl⟩
  | [] => exact .inl rfl
  | [_] => exact .inl rfl
  | [_, _] => exact .inl rfl
  | [_, _, _] => exact .inl rfl
  | _ :: _ :: _ :: _ :: _ :: _ => exact .inl rfl
theorem XG.lst {is : List Nat} {k : Nat} {es : List Expr} {ds : List PyData} {ρ' : Rs} (hc : X.calm = true) (h : XGs X is ρ es ds ρ') (hn : (assignEach es X.env).length = ds.length := by rfl) (hst : (assignEach es X.env).findIdx? (·.1) = none := by rfl) :
    XG X is ρ (.Tuple es k pos) (.list ds) ρ' := by
  refine PG.imp (pg_lst hc h hn hst) fun v σ H Q ⟨F0, H0, F, R, r, q⟩ => ?_
  obtain ⟨a, xs, rfl, h1, h2⟩ := r.lst_of
  exact ⟨a, xs, rfl, .inl (.inl (R.fh _ _ h1)), h2.length, F0, H0, F, R, h2, q⟩
/-- a constant of the module -/
def CtI (K : PySem.W.Frag) (mg : Str → Option Value) (x : Str) (l : List Int) : Prop := ∃ a, mg x = some (.ref a) ∧ TpC K a (l.map V.int)
theorem XV.globCI {x : Str} {l : List Int} (h : CtI X.K X.mg x l) (hg : Gl X x := by rfl) (hd : (x == ("__debug__" : Str)) = false := by decide) : XV X W ρ (.Name x pos) (.ok (⟨l⟩ : CTup Int)) := by
  obtain ⟨a, h1, h2⟩ := h
  exact XV.globC h1 h2 (fun F => rp_ints l) hg hd
end
theorem ctI_of {K : PySem.W.Frag} {h : Heap} {mg : Str → Option Value} {x : Str} {l : List Int} (X : K.In h) (G : h.Ns mainGlobals mg) (c1 : (He.Fa.glo x).ok K = true) (c2 : He.tupB K x (l.map He.Dv.int) = true) : CtI K mg x l := by
  refine ⟨_, He.glo_ok X G c1, fun H => ?_⟩
  have := He.tupB_ok c2 H
  rw [List.map_map] at this
  exact this
end Vs
end
section
set_option Elab.async false
set_option linter.all false
set_option maxRecDepth 100000
set_option maxHeartbeats 1000000
/-! Vs29: plain lemmas, further: repr, dicts, enumerate, items by place, cuts. -/
namespace Vs
open Enc (toD)
open PySem PySem.Spec PyProof.Rows
/-! ### what can be shown -/
structure Sh (d : PyData) (n : Nat) : Prop where
  a : d.showable = true
  b : d.leavesShort 40 = true
  c : d.bulk ≤ n
theorem Sh.int {i : Int} (h0 : 0 ≤ i) (h : i < 10 ^ 38) : Sh (toD i) 0 := ⟨(shows_int h0 h).1, (shows_int h0 h).2, Nat.le_refl _⟩
theorem Sh.bool (b : Bool) : Sh (toD b) 0 := ⟨by cases b <;> rfl, by cases b <;> rfl, Nat.le_refl _⟩
theorem Sh.mono {d : PyData} {n m : Nat} (h : Sh d n) (k : n ≤ m) : Sh d m := ⟨h.a, h.b, Nat.le_trans h.c k⟩
theorem Sh.all {n : Nat} : ∀ {ds : List PyData}, (∀ d ∈ ds, Sh d n) → PyData.showableAll ds = true ∧ PyData.leavesShortAll 40 ds = true ∧ PyData.bulkAll ds ≤ (n + 1) * ds.length
  | [], _ => ⟨rfl, rfl, Nat.zero_le _⟩
  | d :: ds, h => by
    obtain ⟨h1, h2, h3⟩ := Sh.all (ds := ds) fun y hy => h y (List.mem_cons_of_mem _ hy)
    have q := h d List.mem_cons_self
    refine ⟨?_, ?_, ?_⟩
    · show (d.showable && _) = true
      rw [q.a, h1]; rfl
    · show (d.leavesShort 40 && _) = true
      rw [q.b, h2]; rfl
    · show d.bulk + 1 + PyData.bulkAll ds ≤ _
      have := q.c
      rw [List.length_cons, Nat.mul_add]; omega
theorem Sh.list {α : Type} [Enc α] {xs : List α} {n : Nat} (h : ∀ x ∈ xs, Sh (toD x) n) : Sh (toD xs) ((n + 1) * xs.length) := by
  obtain ⟨h1, h2, h3⟩ := Sh.all (ds := xs.map toD) (n := n) fun d hd => by
    obtain ⟨x, hx, rfl⟩ := List.mem_map.mp hd
    exact h x hx
  rw [List.length_map] at h3
  exact ⟨h1, h2, h3⟩
theorem Sh.pair {α β : Type} [Enc α] [Enc β] {p : α × β} {n : Nat} (h1 : Sh (toD p.1) n) (h2 : Sh (toD p.2) n) : Sh (toD p) (2 * n + 2) := by
  obtain ⟨a, b, c⟩ := Sh.all (ds := [toD p.1, toD p.2]) (n := n) fun d hd => by
    rcases List.mem_cons.mp hd with rfl | hd
    · exact h1
    · cases List.mem_singleton.mp hd; exact h2
  exact ⟨a, b, by simp only [List.length_cons, List.length_nil] at c; show PyData.bulkAll _ ≤ _; omega⟩
theorem Sh.some {α : Type} [Enc α] {x : α} {n : Nat} (h : Sh (toD x) n) : Sh (toD (some x)) n := h
theorem Sh.none {α : Type} [Enc α] : Sh (toD (none : Option α)) 0 := ⟨rfl, rfl, Nat.le_refl _⟩
theorem reprR_sh {α : Type} [Enc α] {x : α} {n : Nat} (h : Sh (toD x) n) (k : n ≤ 300000) : reprR x = .ok ⟨(toD x).shown⟩ := reprR_of h.a h.b (Nat.le_trans h.c k)
theorem Sh.ints {xs : List Int} (h : ∀ x ∈ xs, 0 ≤ x ∧ x < 10 ^ 38) : Sh (toD xs) xs.length := by
  have := Sh.list (xs := xs) (n := 0) fun x hx => Sh.int (h x hx).1 (h x hx).2
  simpa using this
section
variable {α β γ κ σ : Type}
/-! ### items -/
theorem getL_nat {xs : List α} {k : Nat} {x : α} (h : xs[k]? = some x) : getL xs (k : Int) = .ok x := by
  have hk := (List.getElem?_eq_some_iff.mp h).1
  unfold getL idx
  rw [if_pos (by omega), if_pos (by omega)]
  simp only [Int.toNat_natCast, Option.bind_some, h]
theorem getL_lt {xs : List α} {k : Nat} (h : k < xs.length) : getL xs (k : Int) = .ok xs[k] := getL_nat (List.getElem?_eq_getElem h)
theorem getL_int {xs : List α} {i : Int} {x : α} (h0 : 0 ≤ i) (h : xs[i.toNat]? = some x) : getL xs i = .ok x := by
  have : i = (i.toNat : Int) := by omega
  rw [this]; exact getL_nat h
theorem getL_neg1 {xs : List α} (h : xs ≠ []) : getL xs (-1) = .ok (xs.getLast h) := by
  have hl := List.length_pos_iff.mpr h
  unfold getL idx
  rw [if_neg (by omega), if_pos (by omega)]
  have e : (-1 + (xs.length : Int)).toNat = xs.length - 1 := by omega
  simp only [Option.bind_some, e]
  rw [List.getLast_eq_getElem h, List.getElem?_eq_getElem (by omega)]
theorem setL_nat {xs : List α} {k : Nat} {v : α} (h : k < xs.length) : setL xs (k : Int) v = .ok (xs.set k v) := by
  unfold setL idx
  rw [if_pos (by omega), if_pos (by omega)]
  simp
theorem enumL_len (xs : List α) : (enumL xs).length = xs.length := by simp [enumL]
theorem enumL_get {xs : List α} {k : Nat} {p : Int × α} (h : (enumL xs)[k]? = some p) : p.1 = (k : Int) ∧ xs[k]? = some p.2 := by
  unfold enumL at h
  rw [List.getElem?_map] at h
  cases e : xs.zipIdx[k]? with
  | none => rw [e] at h; cases h
  | some q =>
    rw [e] at h
    rw [List.getElem?_zipIdx] at e
    cases e2 : xs[k]? with
    | none => rw [e2] at e; cases e
    | some x =>
      rw [e2] at e
      simp at e h
      subst e
      cases h
      exact ⟨by simp, rfl⟩
theorem enumL_eq (xs : List α) : enumL xs = xs.mapIdx fun k x => ((k : Int), x) := by
  apply List.ext_getElem?
  intro k
  unfold enumL
  rw [List.getElem?_map, List.getElem?_zipIdx, List.getElem?_mapIdx]
  cases xs[k]? <;> simp
theorem mem_enumL {xs : List α} {p : Int × α} (h : p ∈ enumL xs) : ∃ k : Nat, p.1 = (k : Int) ∧ xs[k]? = some p.2 := by
  obtain ⟨k, e⟩ := List.mem_iff_getElem?.mp h
  exact ⟨k, enumL_get e⟩
theorem rangeL_nat (n : Nat) : rangeL 0 (n : Int) = (List.range n).map fun k : Nat => (k : Int) := by
  unfold rangeL
  rw [show ((n : Int) - 0).toNat = n by omega]
  exact List.map_congr_left fun k _ => by omega
theorem catL_is {xs ys : List α} (h : xs.length + ys.length ≤ lim) : catL xs ys = .ok (xs ++ ys) := mkL_is (by rw [List.length_append]; exact h)
theorem pushL_is {xs : List α} {y : α} (h : xs.length < lim) : pushL xs y = .ok (xs ++ [y]) := mkL_is (by rw [List.length_append]; exact h)
theorem bnd_nat {n d k : Nat} (h : k ≤ n) : bnd n d (some (k : Int)) = k := by
  show (if (k : Int) < 0 then (max ((k : Int) + n) 0).toNat else (min (k : Int) n).toNat) = k
  rw [if_neg (by omega)]
  omega
theorem cutL_to {xs : List α} {k : Nat} (h : k ≤ xs.length) : cutL xs none (some (k : Int)) = xs.take k := by
  show (xs.drop 0).take (bnd xs.length xs.length (some (k : Int)) - 0) = _
  rw [bnd_nat h]; rfl
theorem cutL_from {xs : List α} {k : Nat} (h : k ≤ xs.length) : cutL xs (some (k : Int)) none = xs.drop k := by
  show (xs.drop (bnd xs.length 0 (some (k : Int)))).take (xs.length - bnd xs.length 0 (some (k : Int))) = _
  rw [bnd_nat h, List.take_of_length_le (by rw [List.length_drop]; omega)]
/-- [f x for x in xs] -/
theorem lcR_map {f : α → Res β} {g : α → β} {xs : List α} (h : ∀ x ∈ xs, f x = .ok (g x)) : lcR (fun _ => .ok true) f xs = .ok (xs.map g) := by
  rw [lcR_pure (b := fun _ => true) (g := g) (fun _ _ => rfl) (fun x hx _ => h x hx), List.filter_eq_self.mpr fun _ _ => rfl]
/-- [x for x in xs if b x] -/
theorem lcR_filter {t : α → Res Bool} {b : α → Bool} {xs : List α} (h : ∀ x ∈ xs, t x = .ok (b x)) : lcR t (fun x => .ok x) xs = .ok (xs.filter b) := by
  rw [lcR_pure (b := b) (g := fun x => x) h (fun _ _ _ => rfl)]
  simp
theorem lcR_id {xs : List α} : lcR (fun _ => .ok true) (fun x => .ok x) xs = .ok xs := by
  rw [lcR_map (g := fun x => x) fun _ _ => rfl]; simp
/-- a loop that may stop with o -/
theorem foldC_first {Ω : Type} {f : Unit → α → Res (Ctl Ω Unit)} {b : α → Bool} {o : Ω} : ∀ {xs : List α}, (∀ x ∈ xs, f () x = .ok (if b x then .ex o else .nx ())) → foldC f xs () = .ok (if xs.any b then .ex o else .nx ())
  | [], _ => rfl
  | x :: xs, h => by
    unfold foldC
    rw [h x List.mem_cons_self, List.any_cons]
    cases b x with
    | true => rfl
    | false => exact foldC_first fun y hy => h y (List.mem_cons_of_mem _ hy)
theorem foldR_append {f : σ → α → Res σ} : ∀ {xs ys : List α} {s : σ}, foldR f (xs ++ ys) s = (foldR f xs s >>= fun s' => foldR f ys s')
  | [], _, _ => rfl
  | x :: xs, ys, s => by
    show (f s x >>= fun s' => foldR f (xs ++ ys) s') = ((f s x >>= fun s' => foldR f xs s') >>= _)
    cases f s x with
    | ok s' => exact foldR_append
    | exc c i => rfl
    | stuck => rfl
/-- a walk that fails first at k -/
theorem foldR_fail {f : Unit → α → Res Unit} {c : Str} {i : Int} : ∀ {xs : List α} {k : Nat} {x : α}, xs[k]? = some x → (∀ j, j < k → ∀ y, xs[j]? = some y → f () y = .ok ()) → f () x = .exc c i → foldR f xs () = .exc c i
  | [], k, x, h, _, _ => by simp at h
  | y :: xs, 0, x, h, _, h2 => by
    simp at h
    subst h
    show (f () y >>= fun s' => foldR f xs s') = _
    rw [h2]; rfl
  | y :: xs, k + 1, x, h, h1, h2 => by
    show (f () y >>= fun s' => foldR f xs s') = _
    rw [h1 0 (Nat.succ_pos _) y rfl]
    exact foldR_fail (k := k) (by simpa using h) (fun j hj z hz => h1 (j + 1) (by omega) z (by simpa using hz)) h2
theorem foldR_pass {f : Unit → α → Res Unit} {xs : List α} (h : ∀ x ∈ xs, f () x = .ok ()) : foldR f xs () = .ok () := by
  obtain ⟨s, e, _⟩ := foldR_inv (f := f) (I := fun _ => True) (xs := xs) (s := ()) (fun x hx s _ => ⟨(), h x hx, trivial⟩) trivial
  exact e
theorem enumL_at {xs : List α} {k : Nat} {x : α} (h : xs[k]? = some x) : (enumL xs)[k]? = some ((k : Int), x) := by
  rw [enumL_eq, List.getElem?_mapIdx, h]; rfl
/-! ### repeats -/
section
variable [DecidableEq α]
theorem dedup_le : ∀ xs : List α, (dedup xs).length ≤ xs.length
  | [] => Nat.le_refl _
  | x :: xs => by
    unfold dedup
    have := dedup_le xs
    split
    · rw [List.length_cons]; omega
    · rw [List.length_cons, List.length_cons]; omega
theorem dedup_nodup : ∀ {xs : List α}, xs.Nodup → dedup xs = xs
  | [], _ => rfl
  | x :: xs, h => by
    rw [List.nodup_cons] at h
    unfold dedup
    rw [if_neg h.1, dedup_nodup h.2]
theorem dedup_len_iff : ∀ {xs : List α}, (dedup xs).length = xs.length ↔ xs.Nodup
  | [] => by simp [dedup]
  | x :: xs => by
    have ih := dedup_len_iff (xs := xs)
    have le := dedup_le xs
    rw [List.nodup_cons]
    unfold dedup
    by_cases h : x ∈ xs
    · rw [if_pos h, List.length_cons]
      exact ⟨fun e => by omega, fun e => absurd h e.1⟩
    · rw [if_neg h, List.length_cons, List.length_cons]
      exact ⟨fun e => ⟨h, ih.mp (by omega)⟩, fun e => by rw [ih.mpr e.2]⟩
theorem dedup_one {xs : List α} {x : α} (h : ∀ y ∈ xs, y = x) : (dedup xs).length ≤ 1 := by
  have n := nodup_dedup xs
  have h' : ∀ y ∈ dedup xs, y = x := fun y hy => h y (mem_dedup.mp hy)
  cases e : dedup xs with
  | nil => simp
  | cons a l =>
    cases l with
    | nil => simp
    | cons b l =>
      rw [e] at n h'
      have := h' a (by simp)
      have := h' b (by simp)
      subst_vars
      simp at n
end
theorem nodup_of_map' {f : α → β} {l : List α} (h : (l.map f).Nodup) : l.Nodup := List.Pairwise.of_map f (fun _ _ hne e => hne (congrArg f e)) h
theorem map_nodup_iff {f : α → β} {xs : List α} (h : xs.Nodup) : (xs.map f).Nodup ↔ ∀ a ∈ xs, ∀ b ∈ xs, f a = f b → a = b := by
  constructor
  · intro n a ha b hb e
    obtain ⟨i, hi⟩ := List.mem_iff_getElem?.mp ha
    obtain ⟨j, hj⟩ := List.mem_iff_getElem?.mp hb
    have li := (List.getElem?_eq_some_iff.mp hi).1
    have lj := (List.getElem?_eq_some_iff.mp hj).1
    have := ((List.getElem?_inj (by rw [List.length_map]; exact li) n).mp (show (xs.map f)[i]? = (xs.map f)[j]? by rw [List.getElem?_map, List.getElem?_map, hi, hj]; simp [e]))
    subst this
    rw [hi] at hj
    exact Option.some.inj hj
  · intro inj
    exact List.pairwise_map.mpr (List.Pairwise.imp_of_mem (fun {a b} ha hb ne e => ne (inj a ha b hb e)) h)
/-! ### dicts -/
section
variable [DecidableEq κ]
theorem mem_putP {l : List (κ × α)} {k k' : κ} {x x' : α} : (k', x') ∈ putP l k x ↔ (k' = k ∧ x' = x) ∨ (k' ≠ k ∧ (k', x') ∈ l) := by
  unfold putP
  by_cases c : (l.any fun p => decide (p.1 = k)) = true
  · rw [if_pos c, List.mem_map]
    constructor
    · rintro ⟨p, hp, e⟩
      by_cases h : p.1 = k
      · rw [if_pos h] at e; cases e; exact .inl ⟨h, rfl⟩
      · rw [if_neg h] at e; subst e; exact .inr ⟨h, hp⟩
    · rintro (⟨rfl, rfl⟩ | ⟨h, hp⟩)
      · obtain ⟨p, hp, e⟩ := List.any_eq_true.mp c
        have e := of_decide_eq_true e
        exact ⟨p, hp, by rw [if_pos e, e]⟩
      · exact ⟨_, hp, by rw [if_neg h]⟩
  · rw [if_neg c, List.mem_append, List.mem_singleton]
    constructor
    · rintro (h | h)
      · refine .inr ⟨fun e => c (List.any_eq_true.mpr ⟨_, h, by simpa using e⟩), h⟩
      · cases h; exact .inl ⟨rfl, rfl⟩
    · rintro (⟨rfl, rfl⟩ | ⟨_, h⟩)
      · exact .inr rfl
      · exact .inl h
theorem keys_putP {l : List (κ × α)} {k : κ} {x : α} (h : (l.map (·.1)).Nodup) : ((putP l k x).map (·.1)).Nodup := by
  unfold putP
  by_cases c : (l.any fun p => decide (p.1 = k)) = true
  · rw [if_pos c, List.map_map]
    have e : l.map ((·.1) ∘ fun p => if p.1 = k then (p.1, x) else p) = l.map (·.1) := List.map_congr_left fun p _ => by
      show (if p.1 = k then (p.1, x) else p).1 = p.1
      split <;> rfl
    rw [e]; exact h
  · rw [if_neg c, List.map_append, List.nodup_append]
    refine ⟨h, by simp, fun a ha b hb => ?_⟩
    simp at hb
    subst hb
    rintro rfl
    obtain ⟨p, hp, e⟩ := List.mem_map.mp ha
    exact c (List.any_eq_true.mpr ⟨p, hp, decide_eq_true e⟩)
theorem len_putP {l : List (κ × α)} {k : κ} {x : α} : (putP l k x).length ≤ l.length + 1 := by
  unfold putP
  split
  · rw [List.length_map]; omega
  · rw [List.length_append]; exact Nat.le_refl _
theorem putR_is {d : Dict κ α} {k : κ} {x : α} (h : d.l.length < lim) : d.putR k x = .ok ⟨putP d.l k x⟩ := if_pos h
theorem valP_some {l : List (κ × α)} {k : κ} {x : α} (h : (l.map (·.1)).Nodup) : valP l k = some x ↔ (k, x) ∈ l := by
  induction l with
  | nil => simp [valP]
  | cons p l ih =>
    rw [List.map_cons, List.nodup_cons] at h
    unfold valP at ih ⊢
    rw [List.find?_cons, List.mem_cons]
    by_cases e : p.1 = k
    · simp only [e, decide_true, Option.map_some, Option.some.injEq]
      constructor
      · intro q; left; rw [← e, ← q]
      · rintro (q | q)
        · rw [← q]
        · exact absurd (List.mem_map.mpr ⟨_, q, rfl⟩) (by rw [← e]; exact h.1)
    · simp only [e, decide_false]
      rw [ih h.2]
      constructor
      · exact .inr
      · rintro (q | q)
        · exact absurd (by rw [← q]) e
        · exact q
theorem valP_none {l : List (κ × α)} {k : κ} : valP l k = none ↔ ∀ x, (k, x) ∉ l := by
  unfold valP
  rw [Option.map_eq_none_iff, List.find?_eq_none]
  constructor
  · intro h x hx
    exact h _ hx (by simp)
  · intro h p hp q
    have := of_decide_eq_true q
    exact h p.2 (by rw [← this]; exact hp)
end
end
end Vs
end
section
set_option Elab.async false
set_option linter.all false
set_option maxRecDepth 100000
set_option maxHeartbeats 1000000
/-! Vs30: orders on data, zip, reversed, truth of lists, a or b of lists. -/
namespace Vs
open Enc (toD)
open PySem PySem.Spec PyProof.Rows L2
section
variable {X : Cx} {W : WX} {ρ : Rs} {pos : Pos} {α β γ S τ Ω : Type} [Enc α] [Enc β] [Enc γ]
section
variable [DecidableEq α] [PyEq α] [Ord1 α] [PyLt α]
theorem reads2 {pins : List (Addr × Obj)} {σ : St} {F H : Hp} {s : Shared} {vx : V} {v : Value} {x : α} (I : Inv X pins σ H s) (sf : Sub F H) (r : RpH X.K F H vx (toD x)) (rx : RelV vx v) : ∃ as, Reads s.heap v (toD x) as :=
  Dp.reads I _ _ _ (r.dp sf (PyEq.lay x)) rx
theorem room2 {A : Around} (hu : A.units + 64 < cLine) (h : PyEq.dp α ≤ 60) (x y : α) : A.units + min (toD x).depth (toD y).depth < cLine := by
  have := PyEq.dep x
  omega
theorem c_ltD (hu : X.A.units + 64 < cLine) (h : PyEq.dp α ≤ 60 := by decide) : CmpOk X .Lt (fun a b : α => Ord1.lt a b) := fun pins s σ H vx vy u1 u2 Q I rx ry ⟨F, x, y, sf, q1, q2, q⟩ => by
  obtain ⟨as, r1⟩ := reads2 I sf q1 rx
  obtain ⟨bs, r2⟩ := reads2 I sf q2 ry
  exact PySem.W.lt_data r1 r2 (PyLt.al x y) (PyLt.nn x) (room2 hu h x y) ⟨.bl _, H, I, by rw [PyLt.ok]; rfl, q⟩
theorem c_gtD (hu : X.A.units + 64 < cLine) (h : PyEq.dp α ≤ 60 := by decide) : CmpOk X .Gt (fun a b : α => Ord1.lt b a) := fun pins s σ H vx vy u1 u2 Q I rx ry ⟨F, x, y, sf, q1, q2, q⟩ => by
  obtain ⟨as, r1⟩ := reads2 I sf q1 rx
  obtain ⟨bs, r2⟩ := reads2 I sf q2 ry
  exact PySem.W.gt_data r1 r2 (PyLt.al x y) (PyLt.nn x) (room2 hu h x y) ⟨.bl _, H, I, by rw [PyLt.ok]; rfl, q⟩
theorem c_leD (hu : X.A.units + 64 < cLine) (h : PyEq.dp α ≤ 60 := by decide) : CmpOk X .LtE (fun a b : α => !Ord1.lt b a) := fun pins s σ H vx vy u1 u2 Q I rx ry ⟨F, x, y, sf, q1, q2, q⟩ => by
  obtain ⟨as, r1⟩ := reads2 I sf q1 rx
  obtain ⟨bs, r2⟩ := reads2 I sf q2 ry
  exact PySem.W.le_data r1 r2 (PyLt.al x y) (PyLt.nn x) (room2 hu h x y) ⟨.bl _, H, I, by rw [PyLt.ok]; rfl, q⟩
theorem c_geD (hu : X.A.units + 64 < cLine) (h : PyEq.dp α ≤ 60 := by decide) : CmpOk X .GtE (fun a b : α => !Ord1.lt a b) := fun pins s σ H vx vy u1 u2 Q I rx ry ⟨F, x, y, sf, q1, q2, q⟩ => by
  obtain ⟨as, r1⟩ := reads2 I sf q1 rx
  obtain ⟨bs, r2⟩ := reads2 I sf q2 ry
  exact PySem.W.ge_data r1 r2 (PyLt.al x y) (PyLt.nn x) (room2 hu h x y) ⟨.bl _, H, I, by rw [PyLt.ok]; rfl, q⟩
end
/-! ### zip -/
theorem PA.len {es : List Expr} {t : TA} (h : PA X es t) : PA X es (fun σ H Q => t σ H fun vs H1 => (∀ a xs, H1 a = some (.lst xs) → xs.length ≤ sizeLine) → Q vs H1) :=
  ⟨fun ps pins s σ H Q I q => thn (h.run ps pins s σ H _ I q) fun us s1 ⟨vs, H1, I1, r, q1⟩ => ⟨vs, H1, I1, r, q1 fun a xs e => (I1.hok a _ e).1⟩⟩
theorem it_zip {K : PySem.W.Frag} {F : Hp} {a b : Addr} {vs ws : List V} {xs : List α} {ys : List β} (e : F a = some (.lst vs)) (r : RpAll K F vs (xs.map toD)) (e' : F b = some (.lst ws)) (r' : RpAll K F ws (ys.map toD)) : ItOk K (Itz K a b) F ((xs.zip ys).map toD) := by
  have l1 : vs.length = xs.length := by rw [r.length, List.length_map]
  have l2 : ws.length = ys.length := by rw [r'.length, List.length_map]
  have hl : ((xs.zip ys).map (toD : α × β → PyData)).length = min xs.length ys.length := by rw [List.length_map, List.length_zip]
  refine ⟨fun i F1 H1 s1 s2 hi => ?_, fun i F1 H1 d x H2 s1 s2 hd hy => ?_, fun i F1 H1 s1 s2 hi => ?_⟩
  · rw [hl] at hi
    have h1 : i < vs.length := by omega
    have h2 : i < ws.length := by omega
    exact ⟨vs, ws, vs[i], ws[i], .inl (.inl (s2 _ _ (s1 _ _ e))), .inl (.inl (s2 _ _ (s1 _ _ e'))), List.getElem?_eq_getElem h1, List.getElem?_eq_getElem h2⟩
  · obtain ⟨T, v, w, rfl, nT, rfl, hx, hy⟩ := hy
    have hx' := hx vs (.inl (.inl (s2 _ _ (s1 _ _ e))))
    have hy' := hy ws (.inl (.inl (s2 _ _ (s1 _ _ e'))))
    obtain ⟨d1, g1, g2⟩ := r.get' hx'
    obtain ⟨d2, g3, g4⟩ := r'.get' hy'
    refine ⟨_, .new s2 nT, ?_⟩
    have hi := (List.getElem?_eq_some_iff.mp hd).1
    rw [hl] at hi
    have i1 : i < xs.length := by omega
    have i2 : i < ys.length := by omega
    have iz : i < (xs.zip ys).length := by rw [List.length_zip]; omega
    rw [List.getElem?_map, List.getElem?_eq_getElem i1] at g1
    rw [List.getElem?_map, List.getElem?_eq_getElem i2] at g3
    cases g1; cases g3
    rw [List.getElem?_map, List.getElem?_eq_getElem iz, List.getElem_zip] at hd
    cases hd
    exact .tup upd_same (.cons ((g2.sub s1).sub (sub_upd (sub_free s2 nT))) (.cons ((g4.sub s1).sub (sub_upd (sub_free s2 nT))) .nil))
  · rw [hl] at hi
    exact ⟨vs, ws, .inl (.inl (s2 _ _ (s1 _ _ e))), .inl (.inl (s2 _ _ (s1 _ _ e'))), by omega⟩
theorem XI.zip {e e2 : Expr} {p tpos : Pos} {elts : List Expr} {kk : Nat} {ma : Res (List α)} {mb : Res (List β)} (hm : X.mg "zip" = none) (ha : XV X W ρ e ma) (hb : XV X W ρ e2 mb) (hg : Gl X "zip" := by rfl)
    (hs : starEach [e, e2] X.env = (false, eval e X.env) :: starEach [e2] X.env := by rfl) (hs2 : starEach [e2] X.env = [(false, eval e2 X.env)] := by rfl) (hpl : (backTo pos (starEach [e2] X.env)).any (·.1) = false := by rfl) :
    XI X W ρ (.Tuple elts kk tpos) (.Call (.Name "zip" p) [e, e2] [] pos) (do
    let xs ← ma
    let ys ← mb
    .ok (xs.zip ys)) := by
  refine PI.imp (pi_zip hg hm (PA.len (XA.cons ha (XA.cons hb XA.nil hs2) hs)) hs hpl) fun σ H R ⟨F0, H0, F, Rh, p⟩ => ⟨F0, H0, F, Rh, ?_⟩
  cases ma with
  | exc c i => exact p
  | stuck => exact p
  | ok x => cases mb with
    | exc c i => exact p
    | stuck => exact p
    | ok y =>
      intro vs F1 H1 g1 r1 hz
      cases r1 with
      | cons r1 t => cases t with
        | cons r2 t =>
          cases t
          obtain ⟨a, us, rfl, e1, e2⟩ := Rp.lst_of r1
          obtain ⟨b, ws, rfl, e3, e4⟩ := Rp.lst_of r2
          refine ⟨a, b, us, ws, rfl, .inl (.inl (g1.fh _ _ e1)), .inl (.inl (g1.fh _ _ e3)), p _ F1 H1 g1 (it_zip e1 e2 e3 e4) ?_⟩
          have h1 := hz a us (g1.fh _ _ e1)
          have h2 := e2.length
          rw [List.length_map] at h2 ⊢
          rw [List.length_zip]
          omega
theorem it_rev {K : PySem.W.Frag} {F : Hp} {a : Addr} {vs : List V} {xs : List α} (e : F a = some (.lst vs)) (r : RpAll K F vs (xs.map toD)) : ItOk K (Itv K a vs.length) F (xs.reverse.map toD) := by
  have l1 : vs.length = xs.length := by rw [r.length, List.length_map]
  have hl : (xs.reverse.map (toD : α → PyData)).length = vs.length := by rw [List.length_map, List.length_reverse, l1]
  refine ⟨fun i F1 H1 s1 s2 hi => ?_, fun i F1 H1 d x H2 s1 s2 hd hy => ?_, fun i F1 H1 s1 s2 hi => ?_⟩
  · rw [hl] at hi
    exact ⟨hi, vs, vs[vs.length - 1 - i]'(by omega), .inl (.inl (s2 _ _ (s1 _ _ e))), List.getElem?_eq_getElem _⟩
  · obtain ⟨rfl, hx⟩ := hy
    have hx' := hx vs (.inl (.inl (s2 _ _ (s1 _ _ e))))
    obtain ⟨d1, g1, g2⟩ := r.get' hx'
    refine ⟨F1, .refl s2, ?_⟩
    have hi := (List.getElem?_eq_some_iff.mp hd).1
    rw [hl] at hi
    rw [List.getElem?_map, List.getElem?_reverse (by omega)] at hd
    rw [List.getElem?_map, l1] at g1
    rw [g1] at hd
    cases hd
    exact g2.sub s1
  · rw [hl] at hi
    exact hi
theorem XI.rev {tg e : Expr} {p : Pos} {m : Res (List α)} (hm : X.mg "reversed" = none) (he : XV X W ρ e m) (hg : Gl X "reversed" := by rfl) (hs : starEach [e] X.env = [(false, eval e X.env)] := by rfl) :
    XI X W ρ tg (.Call (.Name "reversed" p) [e] [] pos) (do
    let xs ← m
    .ok xs.reverse) := by
  refine PI.imp (pi_reversed hg hm (PA.len (XA.cons he XA.nil hs)) hs) fun σ H R ⟨F0, H0, F, Rh, p⟩ => ⟨F0, H0, F, Rh, ?_⟩
  cases m with
  | exc c i => exact p
  | stuck => exact p
  | ok x =>
    intro vs F1 H1 g1 r1 hz
    cases r1 with
    | cons r1 t =>
      cases t
      obtain ⟨a, us, rfl, e1, e2⟩ := Rp.lst_of r1
      refine ⟨a, us, rfl, .inl (.inl (g1.fh _ _ e1)), p _ F1 H1 g1 (it_rev e1 e2) ?_⟩
      have h1 := hz a us (g1.fh _ _ e1)
      have h2 := e2.length
      rw [List.length_map] at h2 ⊢
      rw [List.length_reverse]
      omega
/-! ### truth -/
theorem tru_list {K : PySem.W.Frag} {F H : Hp} {v : V} {xs : List α} (sf : Sub F H) (r : RpH K F H v (toD xs)) : TruV K v H (!xs.isEmpty) := by
  obtain ⟨a, vs, rfl, e1, e2⟩ := r.lst_of sf
  refine .inl ⟨vs, .inl (.inl e1), ?_⟩
  have := e2.length
  rw [List.length_map] at this
  cases vs <;> cases xs <;> simp at this <;> rfl
theorem XT.truL {e : Expr} {m : Res (List α)} (h : XW X W ρ e m) (he : ∀ whole, isTrue e X.env whole = (do let v ← whole; standAt e.pos; holding [v] (truthy v)) := by intro _; rfl) : XT X W ρ e (do
    let xs ← m
    .ok (!xs.isEmpty)) := by
  refine PT.imp (pt_truth h he) fun σ H Q ⟨F0, H0, F, R, p⟩ => ⟨F0, H0, F, R, ?_⟩
  cases m with
  | exc c i => exact p
  | stuck => exact p
  | ok x => exact fun v F1 H1 g1 r1 => ⟨!x.isEmpty, tru_list g1.fh r1, p F1 H1 g1⟩
theorem XT.truI {e : Expr} {m : Res Int} (h : XV X W ρ e m) (he : ∀ whole, isTrue e X.env whole = (do let v ← whole; standAt e.pos; holding [v] (truthy v)) := by intro _; rfl) : XT X W ρ e (do
    let x ← m
    .ok (!decide (x = 0))) := by
  refine PT.imp (pt_truth h he) fun σ H Q ⟨F0, H0, F, R, p⟩ => ⟨F0, H0, F, R, ?_⟩
  cases m with
  | exc c i => exact p
  | stuck => exact p
  | ok x => exact fun v F1 H1 g1 r1 => ⟨!decide (x = 0), by
      rw [r1.int_of]
      show _ = (x != 0)
      by_cases q : x = 0
      · subst q; rfl
      · rw [decide_eq_false q]; simp [q], p F1 H1 g1⟩
/-- a or b, of lists -/
theorem XV.orL {a b : Expr} {rest : List Expr} {ma mb : Res (List α)} (ha : XV X W ρ a ma) (hb : XV X W ρ (.BoolOp .Or (b :: rest) pos) mb) : XV X W ρ (.BoolOp .Or (a :: b :: rest) pos) (do
    let x ← ma
    if x.isEmpty then mb else .ok x) := by
  refine PE.imp (pe_orT ha hb) fun σ H Q ⟨F0, H0, F, R, p⟩ => ⟨F0, H0, F, R, ?_⟩
  cases ma with
  | exc c i => exact p
  | stuck => exact p
  | ok x =>
    intro v F1 H1 g1 r1
    have p1 := PostV.grow g1 p
    refine ⟨!x.isEmpty, tru_list g1.fh (.inl r1), ?_⟩
    cases e : x.isEmpty with
    | true =>
      simp only [Res.ok_bind, e, if_true] at p1
      simp only [Bool.not_true, Bool.false_eq_true, if_false]
      exact ⟨F0, H0, F1, R.grow g1, p1⟩
    | false =>
      simp only [Res.ok_bind, e, Bool.false_eq_true, if_false] at p1
      simp only [Bool.not_false, if_true]
      exact p1 _ F1 H1 (.refl g1.fh) r1
theorem XV.oneL {o : BoolOp} {a : Expr} {m : Res (List α)} (h : XV X W ρ a m) : XV X W ρ (.BoolOp o [a] pos) m := pe_one h
/-! ### how long a display is -/
theorem ll_nil : ∀ xs, Res.ok ([] : List α) = .ok xs → xs.length ≤ 0 := fun xs h => by cases h; exact Nat.le_refl 0
theorem ll_cons {m : Res α} {k : Res (List α)} {n : Nat} (h : ∀ xs, k = .ok xs → xs.length ≤ n) : ∀ xs, (m >>= fun x => k >>= fun xs => .ok (x :: xs)) = .ok xs → xs.length ≤ n + 1 := fun xs q => by
  obtain ⟨a, _, q⟩ := Res.eq_ok_of_bind q
  obtain ⟨b, hb, q⟩ := Res.eq_ok_of_bind q
  cases q
  exact Nat.succ_le_succ (h b hb)
theorem ll_fin {m : Res (List α)} {n : Nat} (h : ∀ xs, m = .ok xs → xs.length ≤ n) (hn : n ≤ 1000 := by decide) : ∀ xs, m = .ok xs → xs.length ≤ 1000 := fun xs q => Nat.le_trans (h xs q) hn
end
end Vs
end
section
set_option Elab.async false
set_option linter.all false
set_option maxRecDepth 100000
set_option maxHeartbeats 1000000
/-! Vs31: plain lemmas on walks: two walks alike, walks that gather, loops, rows that rise. -/
namespace Vs
open Enc (toD)
open PySem PySem.Spec PyProof.Rows
section
variable {α β γ σ τ : Type}
theorem foldR_congr {f g : σ → α → Res σ} : ∀ {xs : List α} {s : σ}, (∀ x ∈ xs, ∀ s, f s x = g s x) → foldR f xs s = foldR g xs s
  | [], _, _ => rfl
  | x :: xs, s, h => by
    show (f s x >>= fun s' => foldR f xs s') = (g s x >>= fun s' => foldR g xs s')
    rw [h x List.mem_cons_self]
    cases g s x with
    | ok s' => exact foldR_congr fun y hy => h y (List.mem_cons_of_mem _ hy)
    | exc c i => rfl
    | stuck => rfl
theorem foldR_two {f : σ → α → Res σ} {g : σ → β → Res σ} : ∀ {xs : List α} {ys : List β} {s : σ}, xs.length = ys.length → (∀ (k : Nat) x y, xs[k]? = some x → ys[k]? = some y → ∀ s, f s x = g s y) → foldR f xs s = foldR g ys s
  | [], [], _, _, _ => rfl
  | [], _ :: _, _, h, _ => by simp at h
  | _ :: _, [], _, h, _ => by simp at h
  | x :: xs, y :: ys, s, hl, h => by
    show (f s x >>= fun s' => foldR f xs s') = (g s y >>= fun s' => foldR g ys s')
    rw [h 0 x y rfl rfl]
    cases g s y with
    | ok s' => exact foldR_two (by simpa using hl) fun k a b ha hb => h (k + 1) a b (by simpa using ha) (by simpa using hb)
    | exc c i => rfl
    | stuck => rfl
theorem foldR_enum {f : σ → Int × α → Res σ} {g : σ → α → Res σ} {xs : List α} {s : σ} (h : ∀ (k : Nat) x, xs[k]? = some x → ∀ s, f s ((k : Int), x) = g s x) : foldR f (enumL xs) s = foldR g xs s :=
  foldR_two (enumL_len xs) fun k p x hp hx s => by
    obtain ⟨h1, h2⟩ := enumL_get hp
    rw [hx] at h2; cases h2
    rw [← h k p.2 hx s, ← h1]
theorem foldR_range {f : σ → Int → Res σ} {g : σ → α → Res σ} {xs : List α} {lo : Nat} {s : σ} (hl : lo ≤ xs.length) (h : ∀ (k : Nat) x, lo ≤ k → xs[k]? = some x → ∀ s, f s (k : Int) = g s x) : foldR f (rangeL (lo : Int) (lenL xs)) s = foldR g (xs.drop lo) s :=
  foldR_two (by rw [rangeL_length, List.length_drop]; unfold lenL; omega) fun k i x hi hx s => by
    have hk := (List.getElem?_eq_some_iff.mp hi).1
    rw [rangeL_length] at hk
    rw [rangeL_get hk] at hi
    cases hi
    rw [List.getElem?_drop] at hx
    have := h (lo + k) x (by omega) hx s
    rw [← this, Int.natCast_add]
theorem foldR_filter {g : σ → α → Res σ} {b : α → Bool} : ∀ {xs : List α} {s : σ}, foldR (fun s x => if b x then g s x else .ok s) xs s = foldR g (xs.filter b) s
  | [], _ => rfl
  | x :: xs, s => by
    show ((if b x then g s x else .ok s) >>= fun s' => foldR _ xs s') = _
    rw [List.filter_cons]
    cases b x with
    | true =>
      simp only [if_true]
      show _ = (g s x >>= fun s' => foldR g (xs.filter b) s')
      cases g s x with
      | ok s' => exact foldR_filter
      | exc c i => rfl
      | stuck => rfl
    | false =>
      simp only [Bool.false_eq_true, if_false]
      exact foldR_filter
/-- a walk that puts g x behind what it has -/
theorem foldR_flat {f : List β → α → Res (List β)} {g : α → List β} {B : Nat} : ∀ {xs : List α} {s : List β}, (∀ x ∈ xs, ∀ s, s.length + (g x).length ≤ B → f s x = .ok (s ++ g x)) → s.length + (xs.flatMap g).length ≤ B → foldR f xs s = .ok (s ++ xs.flatMap g)
  | [], s, _, _ => by rw [List.flatMap_nil, List.append_nil]; rfl
  | x :: xs, s, h, hb => by
    rw [List.flatMap_cons, List.length_append] at hb
    show (f s x >>= fun s' => foldR f xs s') = _
    rw [h x List.mem_cons_self s (by omega)]
    show foldR f xs (s ++ g x) = _
    rw [foldR_flat (fun y hy => h y (List.mem_cons_of_mem _ hy)) (by rw [List.length_append]; omega), List.flatMap_cons, List.append_assoc]
theorem flatMap_len {g : α → List β} {n : Nat} : ∀ {xs : List α}, (∀ x ∈ xs, (g x).length ≤ n) → (xs.flatMap g).length ≤ n * xs.length
  | [], _ => by simp
  | x :: xs, h => by
    rw [List.flatMap_cons, List.length_append, List.length_cons, Nat.mul_add]
    have := h x List.mem_cons_self
    have := flatMap_len (xs := xs) fun y hy => h y (List.mem_cons_of_mem _ hy)
    omega
/-! ### loops -/
theorem whileR_stop {c : σ → Res Bool} {b : σ → Res σ} {s : σ} (h : c s = .ok false) : whileR c b s = .ok s := by
  rw [whileR_unfold, h]; rfl
theorem whileR_step {c : σ → Res Bool} {b : σ → Res σ} {s s' : σ} (h : c s = .ok true) (h2 : b s = .ok s') : whileR c b s = whileR c b s' := by
  rw [whileR_unfold, h]
  show (b s >>= whileR c b) = _
  rw [h2]; rfl
/-! ### rows that rise -/
section
variable [Ord1 α] [DecidableEq α] [OrdT α]
abbrev Up (xs : List α) : Prop := xs.Pairwise fun a b => Ord1.lt a b = true
theorem up_drop : ∀ {xs : List α} {k : Nat} {x : α}, Up xs → xs[k]? = some x → xs.filter (fun y => Ord1.lt x y) = xs.drop (k + 1)
  | [], k, x, _, h => by simp at h
  | y :: ys, 0, x, u, h => by
    simp at h; subst h
    rw [List.filter_cons, OrdT.irr]
    simp only [Bool.false_eq_true, if_false, Nat.zero_add, List.drop_succ_cons, List.drop_zero]
    exact List.filter_eq_self.mpr fun z hz => (List.pairwise_cons.mp u).1 z hz
  | y :: ys, k + 1, x, u, h => by
    have hx : ys[k]? = some x := by simpa using h
    have := (List.pairwise_cons.mp u).1 x (List.mem_of_getElem? hx)
    rw [List.filter_cons, OrdT.asym this]
    simp only [Bool.false_eq_true, if_false, List.drop_succ_cons]
    exact up_drop (List.pairwise_cons.mp u).2 hx
/-- a row that rises, of members of one -/
theorem up_sublist : ∀ {xs l : List α}, Up xs → Up l → (∀ x ∈ l, x ∈ xs) → l.Sublist xs
  | xs, [], _, _, _ => List.nil_sublist xs
  | [], a :: l, _, _, h => by have := h a List.mem_cons_self; simp at this
  | x :: xs, a :: l, hx, hl, h => by
    have hx' := List.pairwise_cons.mp hx
    have hl' := List.pairwise_cons.mp hl
    rcases List.mem_cons.mp (h a List.mem_cons_self) with rfl | ha
    · exact (up_sublist hx'.2 hl'.2 fun y hy => by
        rcases List.mem_cons.mp (h y (List.mem_cons_of_mem _ hy)) with rfl | q
        · have := hl'.1 y hy; rw [OrdT.irr] at this; cases this
        · exact q).cons₂ _
    · refine (up_sublist hx'.2 hl fun y hy => ?_).cons _
      rcases List.mem_cons.mp (h y hy) with rfl | q
      · rcases List.mem_cons.mp hy with rfl | hy
        · exact ha
        · have h1 := hl'.1 _ hy
          have h2 := hx'.1 a ha
          rw [OrdT.asym h1] at h2; cases h2
      · exact q
theorem sortP_up {xs : List α} (h : Up xs) : sortP xs = xs := sortP_uniq (h.imp fun h => OrdT.asym h) (List.Perm.refl _)
theorem sortS_up {xs : List α} (h : Up xs) : sortS xs = xs := sortS_uniq h fun _ => Iff.rfl
theorem sortS_iff {xs : List α} : xs = sortS xs ↔ Up xs := ⟨fun e => by rw [e]; exact sortS_lt' xs, fun h => (sortS_up h).symm⟩
end
end
end Vs
namespace Vs
open Enc (toD)
open PySem PySem.Spec PyProof.Rows
section
variable {α β : Type}
theorem flatMap_if {b : α → Bool} {g : α → List β} : ∀ {xs : List α}, xs.flatMap (fun x => if b x = true then g x else []) = (xs.filter b).flatMap g
  | [] => rfl
  | x :: xs => by
    rw [List.flatMap_cons, List.filter_cons, flatMap_if]
    cases b x <;> simp
theorem sortL_list [Ord1 α] [DecidableEq α] (xs : List (List α)) : sortL xs = .ok (sortP xs) := if_pos rfl
theorem sortL_pair [Ord1 α] [DecidableEq α] [Ord1 β] (xs : List (α × β)) : sortL xs = .ok (sortP xs) := if_pos rfl
theorem up_last [Ord1 α] [DecidableEq α] [OrdT α] {xs : List α} (h : Up xs) (hn : xs ≠ []) {a : α} (ha : a ∈ xs) : a = xs.getLast hn ∨ Ord1.lt a (xs.getLast hn) = true := by
  rw [← List.dropLast_concat_getLast hn] at h ha
  rcases List.mem_append.mp ha with q | q
  · exact .inr ((List.pairwise_append.mp h).2.2 a q _ (List.mem_singleton.mpr rfl))
  · exact .inl (List.mem_singleton.mp q)
theorem up_snoc [Ord1 α] [DecidableEq α] [OrdT α] {xs : List α} (h : Up xs) (hn : xs ≠ []) {z : α} (hz : Ord1.lt (xs.getLast hn) z = true) : Up (xs ++ [z]) :=
  List.pairwise_append.mpr ⟨h, List.pairwise_singleton _ _, fun a ha b hb => by
    rw [List.mem_singleton.mp hb]
    rcases up_last h hn ha with rfl | q
    · exact hz
    · exact OrdT.tr _ _ _ q hz⟩
theorem memB_t [DecidableEq α] {x : α} {xs : List α} (h : x ∈ xs) : memB x xs = true := memB_iff.mpr h
theorem memB_f [DecidableEq α] {x : α} {xs : List α} (h : x ∉ xs) : memB x xs = false := by
  cases e : memB x xs with
  | false => rfl
  | true => exact absurd (memB_iff.mp e) h
theorem cutL_take {xs : List α} (k : Nat) : cutL xs none (some (k : Int)) = xs.take k := by
  show (xs.drop 0).take (bnd xs.length xs.length (some (k : Int)) - 0) = _
  have : bnd xs.length xs.length (some (k : Int)) = min k xs.length := by
    show (if (k : Int) < 0 then (max ((k : Int) + xs.length) 0).toNat else (min (k : Int) xs.length).toNat) = _
    rw [if_neg (by omega)]; omega
  rw [this, List.drop_zero, Nat.sub_zero, Nat.min_comm, List.take_eq_take_iff]
  omega
theorem cutL_neg1 {xs : List α} {z : α} (h : xs[xs.length - 1]? = some z) : cutL xs (some (-(1 : Int))) none = [z] := by
  have hl := (List.getElem?_eq_some_iff.mp h).1
  show (xs.drop (bnd xs.length 0 (some (-(1 : Int))))).take (xs.length - bnd xs.length 0 (some (-(1 : Int)))) = _
  have : bnd xs.length 0 (some (-(1 : Int))) = xs.length - 1 := by
    show (if (-(1 : Int)) < 0 then (max ((-(1 : Int)) + xs.length) 0).toNat else (min (-(1 : Int)) xs.length).toNat) = _
    rw [if_pos (by decide)]; omega
  rw [this, List.drop_eq_getElem_cons hl, (List.getElem?_eq_some_iff.mp h).2, List.drop_of_length_le (by omega), List.take_of_length_le (by simp; omega)]
end
end Vs
end
section
set_option Elab.async false
set_option linter.all false
set_option maxRecDepth 100000
set_option maxHeartbeats 1000000
/-! Vs32: extend. -/
namespace Vs
open Enc (toD)
open PySem PySem.Spec PyProof.Rows L2
section
variable {X : Cx} {W : WX} {ρ : Rs} {pos : Pos} {α β γ S τ Ω : Type} [Enc α] [Enc β] [Enc γ]
/-- xs.extend(e), xs a slot's own list -/
theorem XB.extend (k i : Nat) (ks : List Nat) {nm : Str} {e : Expr} {p1 p2 p3 : Pos} {xs : List α} {rest : List Stmt} {me : Res (List α)} {mr : List α → Res τ} {fin : τ → Fi} (ρ' : List α → Rs) (hk : ρ[k]? = some (i, SV.ow (toD xs))) (he : XV X W ρ e me) (hr : ∀ ys, XB X W (ρ' ys) rest (mr ys) fin)
    (hρ : ∀ ys, ρ' ys = (i, SV.ow (toD ys)) :: keepAt ρ ks := by intro _; rfl) (ho : okK ρ [i] ks = true := by rfl) (hN : X.N[i]? = some nm := by rfl) (hv : Vis X.env.scope nm := by first | exact Or.inl rfl | exact Or.inr (Or.inl rfl) | exact Or.inr (Or.inr rfl))
    (hd : (nm == ("__debug__" : Str)) = false := by decide) (hcd : (nm == ("__classdict__" : Str)) = false := by decide) (hs : starEach [e] X.env = [(false, eval e X.env)] := by rfl)
    (hb : attributeBase (.Name nm p1) ("extend" : Str) X.env (eval (.Name nm p1) X.env) = eval (.Name nm p1) X.env := by rfl) (hl : (p2.endLine == p3.line) = true := by rfl) (hsw : swapsWith (.Call (.Attribute (.Name nm p1) ("extend" : Str) p2) [e] [] p3) none pos.line X.env = pure false := by rfl) :
    XB X W ρ (.Expr (.Call (.Attribute (.Name nm p1) ("extend" : Str) p2) [e] [] p3) pos :: rest) (do
    let y ← me
    let ys ← catL xs y
    mr ys) fin := by
  refine PSs.imp (pss_cons (ps_expr (pe_bm PySem.F.plainAttrs_list PySem.F.slot_list_extend PySem.F.type_list_extend mt_extend (pe_var hN hv hd hcd) (pa_cons he pa_nil hs) (hline := hl) (hfew := by rw [hs]; rfl) (hs := hs)) hsw) (PSs.ex hr)) fun D σ H ⟨F0, H0, F, R, p⟩ => ?_
  obtain ⟨a, vs, ea, e1, r, zf, z, hm⟩ := own_get R hk
  refine ⟨.ref a, ea, .inl ⟨rfl, vs, .inl (.inl e1)⟩, F0, H0, F, R, ?_⟩
  have q := PostS.bind R p
  cases me with
  | exc c i => exact q
  | stuck => exact q
  | ok y =>
    intro v F1 H1 g rv
    have p1 : PostS X.K X.N.length W F0 H0 F (catL xs y >>= mr) fin D := p
    unfold catL mkL at p1
    split at p1
    · rename_i hlen
      have e1' := g.h _ _ e1
      have zf' : F1 a = none := by rw [g.fn a (by rw [e1]; exact .lst)]; exact zf
      obtain ⟨b, zs, rfl, eb, rb⟩ := Rp.lst_of rv
      refine ⟨a, b, vs, zs, rfl, rfl, e1', g.fh _ _ eb, ?_, xs ++ y, F0, H0, F1, ?_, PostS.sub g.f p1⟩
      · have h2 := r.length
        have h3 := rb.length
        rw [List.length_map] at h2 h3
        rw [List.length_append] at hlen
        rw [h2, h3, ← lim_line]; omega
      · refine (R.grow g).mut hm ea (o := .lst (vs ++ zs)) ⟨zf', .inl ⟨vs ++ zs, _, upd_same, (r.sub g.f).append rb, ?_⟩⟩ (by rw [hρ]; exact put_w ho)
        show toD (xs ++ y) = .list _
        rw [show (xs.map toD ++ y.map toD) = (xs ++ y).map toD by simp]; rfl
    · exact p1.elim
end
end Vs
end
section
set_option Elab.async false
set_option linter.all false
set_option maxRecDepth 100000
set_option maxHeartbeats 1000000
/-! Vs33: x, y = a, b; range down; pop at a place; is True. -/
namespace Vs
open Enc (toD)
open PySem PySem.Spec PyProof.Rows L2
section
variable {X : Cx} {W : WX} {ρ : Rs} {pos : Pos} {α β γ S τ Ω : Type} [Enc α] [Enc β] [Enc γ]
theorem put2_w {ρ : Rs} {i j : Nat} {si sj : SV} {ks : List Nat} (o : okK ρ [i, j] ks = true) (hij : i ≠ j) : okK ((i, si) :: keepAt ρ ks) [j] ((List.range (ks.length + 1))) = true := by
  unfold okK
  rw [List.all_eq_true]
  intro k _
  cases e : ((i, si) :: keepAt ρ ks)[k]? with
  | none => rfl
  | some p =>
    have hp := List.mem_of_getElem? e
    rcases List.mem_cons.mp hp with rfl | hp
    · simpa using hij
    · have := keep_ne hp o
      simp at this ⊢
      exact this.2
/-- two slots are set to frozen data -/
theorem Rho.set2 {K : PySem.W.Frag} {n : Nat} {F0 H0 F H : Hp} {σ : St} {i j : Nat} {v u : V} {d e : PyData} {ks : List Nat} (R : Rho K n F0 H0 F H σ ρ) (hi : i < n) (hj : j < n) (hij : i ≠ j) (r : Rp K F v d) (q : Rp K F u e) (o : okK ρ [i, j] ks = true) :
    Rho K n F0 H0 F H ((σ.set i (some v)).set j (some u)) ((j, SV.sh e) :: (i, SV.sh d) :: keepAt ρ ks) := by
  have R1 : Rho K n F0 H0 F H (σ.set i (some v)) ((i, SV.sh d) :: keepAt ρ ks) := R.set hi r fun p hp => by
    rcases List.mem_cons.mp hp with h | h
    · exact .inl h
    · exact .inr ⟨keep_mem h, fun z => keep_ne h o (by simp [z])⟩
  refine R1.set hj q fun p hp => ?_
  rcases List.mem_cons.mp hp with h | h
  · exact .inl h
  · refine .inr ⟨h, fun z => ?_⟩
    rcases List.mem_cons.mp h with rfl | h
    · exact hij z
    · exact keep_ne h o (by simp [z])
/-- x, y = a, b with plain local names -/
theorem XB.par2 (i j : Nat) (ks : List Nat) {x y : Str} {a b : Expr} {px py pt p2 : Pos} {kt k2 : Nat} {rest : List Stmt} {ma : Res α} {mb : Res β} {mr : α → β → Res τ} {fin : τ → Fi} (ρ' : α → β → Rs) (hN : X.N.Nodup) (ha : XV X W ρ a ma) (hb : XV X W ρ b mb) (hr : ∀ u v, XB X W (ρ' u v) rest (mr u v) fin)
    (hρ : ∀ u v, ρ' u v = (j, SV.sh (toD v)) :: (i, SV.sh (toD u)) :: keepAt ρ ks := by intro _ _; rfl) (ho : okK ρ [i, j] ks = true := by rfl) (hij : i ≠ j := by decide) (hi : X.N[i]? = some x := by rfl) (hj : X.N[j]? = some y := by rfl)
    (hc : X.calm = true := by rfl) (hx : X.env.scope.names.lookup x = some .local := by rfl) (hy : X.env.scope.names.lookup y = some .local := by rfl) (hst : starEach [a, b] X.env = (false, eval a X.env) :: starEach [b] X.env := by rfl) (hst2 : starEach [b] X.env = [(false, eval b X.env)] := by rfl)
    (hw : swappedStores [.Tuple [.Name x px, .Name y py] kt pt] (.Tuple [a, b] k2 p2) X.env = pure (some [x, y]) := by rfl) (hs : swapsWithSole [.Tuple [.Name x px, .Name y py] kt pt] (.Tuple [a, b] k2 p2) pos.line X.env = pure false := by rfl) :
    XB X W ρ (.Assign [.Tuple [.Name x px, .Name y py] kt pt] (.Tuple [a, b] k2 p2) pos :: rest) (do
    let u ← ma
    let v ← mb
    mr u v) fin := by
  refine PSs.imp (pss_cons (ps_par hc hN hi hj hij hx hy (XA.cons ha (XA.cons hb XA.nil hst2) hst) hw hs) (PSs.ex fun p : α × β => hr p.1 p.2)) fun D σ H ⟨F0, H0, F, R, p⟩ => ⟨F0, H0, F, R, ?_⟩
  have q := PostS.bind R p
  cases ma with
  | exc c i => exact q
  | stuck => exact q
  | ok u =>
    have p2 : PostS X.K X.N.length W F0 H0 F (mb >>= mr u) fin D := p
    have q2 := PostS.bind R p2
    cases mb with
    | exc c i => exact q2
    | stuck => exact q2
    | ok v =>
      intro vs F1 H1 g r
      cases r with
      | cons r1 t => cases t with
        | cons r2 t =>
          cases t
          refine ⟨_, _, rfl, (u, v), F0, H0, F1, ?_, PostS.sub g.f p2⟩
          rw [hρ]
          exact (R.grow g).set2 (List.getElem?_eq_some_iff.mp hi).1 (List.getElem?_eq_some_iff.mp hj).1 hij r1 r2 ho
/-! ### range(a, b, -1) -/
def downL (a b : Int) : List Int := (List.range (a - b).toNat).map fun k : Nat => a - (k : Int)
def downR (a b : Int) : Res (List Int) := if -(2 ^ 62) ≤ a ∧ a < 2 ^ 62 ∧ -(2 ^ 62) ≤ b ∧ b < 2 ^ 62 ∧ (a - b).toNat ≤ lim then .ok (downL a b) else .stuck
theorem it_down {K : PySem.W.Frag} {F : Hp} (a b : Int) : ItOk K (Itc a (-1) (a - b).toNat) F ((downL a b).map toD) := by
  have hl : ((downL a b).map (toD : Int → PyData)).length = (a - b).toNat := by unfold downL; simp
  refine ⟨fun i F1 H1 s1 s2 hi => by rw [hl] at hi; exact hi, fun i F1 H1 d x H2 s1 s2 hd hy => ?_, fun i F1 H1 s1 s2 hi => by rw [hl] at hi; exact hi⟩
  obtain ⟨rfl, rfl⟩ := hy
  refine ⟨F1, .refl s2, ?_⟩
  have hlt := (List.getElem?_eq_some_iff.mp hd).1
  rw [hl] at hlt
  have e : ((downL a b).map (toD : Int → PyData))[i]? = some (.int (a + (i : Nat) * (-1))) := by
    unfold downL
    simp only [List.map_map, List.getElem?_map, List.getElem?_range hlt, Option.map_some]
    show some (PyData.int (a - (i : Int))) = _
    congr 2
    omega
  rw [e] at hd; cases hd
  exact .int _
theorem XI.rangeD {tg a b c : Expr} {p : Pos} {ma mb mc : Res Int} (hm : X.mg "range" = none) (ha : XV X W ρ a ma) (hb : XV X W ρ b mb) (hc : XV X W ρ c mc) (e1 : mc = .ok (-1)) (hg : Gl X "range" := by rfl)
    (hs : starEach [a, b, c] X.env = (false, eval a X.env) :: starEach [b, c] X.env := by rfl) (hs2 : starEach [b, c] X.env = (false, eval b X.env) :: starEach [c] X.env := by rfl) (hs3 : starEach [c] X.env = [(false, eval c X.env)] := by rfl)
    (hpl : (backTo pos (starEach [b, c] X.env)).any (·.1) = false := by rfl) : XI X W ρ tg (.Call (.Name "range" p) [a, b, c] [] pos) (do
    let x ← ma
    let y ← mb
    downR x y) := by
  subst e1
  refine PI.imp (pi_range3 hg hm (XA.cons ha (XA.cons hb (XA.cons hc XA.nil hs3) hs2) hs) hs hpl) fun σ H R ⟨F0, H0, F, Rh, p⟩ => ⟨F0, H0, F, Rh, ?_⟩
  cases ma with
  | exc c i => exact p
  | stuck => exact p
  | ok x => cases mb with
    | exc c i => exact p
    | stuck => exact p
    | ok y =>
      intro vs F1 H1 g1 r1
      have p1 : PostI X.K W F H ((downR x y).map (fun xs => xs.map toD)) R := p
      unfold downR at p1
      by_cases h : -(2 ^ 62) ≤ x ∧ x < 2 ^ 62 ∧ -(2 ^ 62) ≤ y ∧ y < 2 ^ 62 ∧ (x - y).toNat ≤ lim
      · rw [if_pos h] at p1
        obtain ⟨h1, h2, h3, h4, h5⟩ := h
        cases r1 with
        | cons r1 t => cases t with
          | cons r2 t => cases t with
            | cons r3 t =>
              cases t
              refine ⟨x, y, -1, (x - y).toNat, by rw [r1.int_of, r2.int_of, r3.int_of], RgC.neg h1 h2 h3 h4, p1 _ F1 H1 g1 (it_down x y) ?_⟩
              unfold downL
              simp only [List.length_map, List.length_range]
              rw [← lim_line]; exact h5
      · rw [if_neg h] at p1
        exact p1.elim
end
end Vs
namespace Vs
open Enc (toD)
open PySem PySem.Spec PyProof.Rows L2
section
variable {X : Cx} {W : WX} {ρ : Rs} {pos : Pos} {α β γ S τ Ω : Type} [Enc α] [Enc β] [Enc γ]
theorem Cell.two {K : PySem.W.Frag} {F1 H1 : Hp} {a b : Addr} {d : PyData} (c : Cell K F1 H1 a d) (z : H1 b = none) : a ≠ b := fun e => c.there (by rw [e]; exact z)
/-- x, y = a, b, both new lists or dicts; the names are cells -/
theorem XB.parO (i j : Nat) (ks : List Nat) {x y : Str} {a b : Expr} {px py pt p2 : Pos} {kt k2 : Nat} {rest : List Stmt} {ma : Res α} {mb : Res β} {mr : α → β → Res τ} {fin : τ → Fi} (ρ' : α → β → Rs) (hN : X.N.Nodup) (ha : XF X W ρ a ma) (hb : XF X W ρ b mb) (hr : ∀ u v, XB X W (ρ' u v) rest (mr u v) fin)
    (hρ : ∀ u v, ρ' u v = (j, SV.ow (toD v)) :: (i, SV.ow (toD u)) :: keepAt ρ ks := by intro _ _; rfl) (ho : okK ρ [i, j] ks = true := by rfl) (hij : i ≠ j := by decide) (hi : X.N[i]? = some x := by rfl) (hj : X.N[j]? = some y := by rfl)
    (hc : X.calm = true := by rfl) (hx : Loc X.env.scope x := by first | exact Or.inl rfl | exact Or.inr rfl) (hy : Loc X.env.scope y := by first | exact Or.inl rfl | exact Or.inr rfl) (hst : starEach [a, b] X.env = (false, eval a X.env) :: starEach [b] X.env := by rfl) (hst2 : starEach [b] X.env = [(false, eval b X.env)] := by rfl)
    (hf : X.fn x = true ∨ X.env.scope.names.lookup x = some .local := by first | exact .inl rfl | exact .inr rfl) (hf2 : X.fn y = true ∨ X.env.scope.names.lookup y = some .local := by first | exact .inl rfl | exact .inr rfl)
    (hs : swapsWithSole [.Tuple [.Name x px, .Name y py] kt pt] (.Tuple [a, b] k2 p2) pos.line X.env = pure false := by rfl) (hw : swappedStores [.Tuple [.Name x px, .Name y py] kt pt] (.Tuple [a, b] k2 p2) X.env = pure none := by rfl) 
    (h1 : (assignEach [.Tuple [.Name x px, .Name y py] kt pt] X.env).map (·.2) = [assign (.Tuple [.Name x px, .Name y py] kt pt) X.env] := by rfl) (hn : (assignEach [Expr.Name x px, .Name y py] X.env).length = 2 := by rfl) (hfi : (assignEach [Expr.Name x px, .Name y py] X.env).findIdx? (·.1) = none := by rfl)
    (hq : (assignEach [Expr.Name x px, .Name y py] X.env).map (·.2) = assign (.Name x px) X.env :: (assignEach [Expr.Name y py] X.env).map (·.2) := by rfl) (hq2 : (assignEach [Expr.Name y py] X.env).map (·.2) = assign (.Name y py) X.env :: (assignEach ([] : List Expr) X.env).map (·.2) := by rfl) :
    XB X W ρ (.Assign [.Tuple [.Name x px, .Name y py] kt pt] (.Tuple [a, b] k2 p2) pos :: rest) (do
    let u ← ma
    let v ← mb
    mr u v) fin := by
  refine PSs.imp (pss_cons (ps_asg (pe_tup (pa_cons ha (pa_cons hb pa_nil hst2) hst)) (pg_tup hc (pgs_cons (pg_name hN hi hx hf) (pgs_cons (pg_name hN hj hy hf2) pgs_nil hq2) hq) hn hfi) hs hw h1) (PSs.ex fun p : α × β => hr p.1 p.2)) fun D σ H ⟨F0, H0, F, R, p⟩ => ⟨F0, H0, F, R, ?_⟩
  have q := PostS.bindF R p
  cases ma with
  | exc c i => exact q
  | stuck => exact q
  | ok u =>
    intro a1 F1 H1 g1 z1 c1
    have p2 : PostS X.K X.N.length W F0 H0 F (mb >>= mr u) fin D := p
    refine ⟨F0, H0, F1, R.grow g1, ?_⟩
    have q2 := PostS.bindF (R.grow g1) (PostS.sub g1.f p2)
    cases mb with
    | exc c i => exact q2
    | stuck => exact q2
    | ok v =>
      intro b1 F2 H2 g2 z2 c2
      refine ⟨by show 2 ≤ sizeLine; decide, fun T nT => ⟨T, [.ref a1, .ref b1], rfl, TpA.sq upd_same, rfl, .ref a1, [.ref b1], rfl, .ref b1, [], rfl, rfl, (u, v), F0, H0, F2, ?_, PostS.sub (g1.trans g2).f p2⟩⟩
      have go : Grow F2 H2 F2 (upd H2 T (.tup [.ref a1, .ref b1])) := .own g2.fh nT
      have R3 := ((R.grow g1).grow g2).grow go
      have d1 : Cell X.K F2 (upd H2 T (.tup [.ref a1, .ref b1])) a1 (toD u) := (c1.grow g2).grow go
      have d2 : Cell X.K F2 (upd H2 T (.tup [.ref a1, .ref b1])) b1 (toD v) := c2.grow go
      have ne : a1 ≠ b1 := c1.two z2
      rw [hρ]
      have R4 : Rho X.K X.N.length F0 H0 F2 (upd H2 T (.tup [.ref a1, .ref b1])) (σ.set i (some (.ref a1))) ((i, SV.ow (toD u)) :: keepAt ρ ks) := R3.setO (List.getElem?_eq_some_iff.mp hi).1 d1 (sub_free R.base.h z1) (fun k e m hk z => by
        obtain ⟨b, e1, c3, _⟩ := R.ow k e m
        rw [z] at e1; cases e1
        exact c3.there z1) fun p hp => by
          rcases List.mem_cons.mp hp with h | h
          · exact .inl h
          · exact .inr ⟨keep_mem h, fun z => keep_ne h ho (by simp [z])⟩
      refine R4.setO (List.getElem?_eq_some_iff.mp hj).1 d2 (sub_free ((R.grow g1).base.h) z2) (fun k e m hk z => ?_) fun p hp => ?_
      · rcases List.mem_cons.mp m with h | h
        · cases h
          rw [set_self R.len (List.getElem?_eq_some_iff.mp hi).1] at z
          cases z
          exact ne rfl
        · have hki : k ≠ i := fun z => keep_ne h ho (by simp [z])
          rw [List.getElem?_set_ne (Ne.symm hki)] at z
          obtain ⟨b, e1, c3, _⟩ := R.ow k e (keep_mem h)
          rw [z] at e1; cases e1
          exact (c3.grow g1).there z2
      · rcases List.mem_cons.mp hp with h | h
        · exact .inl h
        · refine .inr ⟨h, fun z => ?_⟩
          rcases List.mem_cons.mp h with rfl | h
          · exact hij z
          · exact keep_ne h ho (by simp [z])
/-! ### pop at a place -/
def popL (xs : List α) (i : Int) : Res (α × List α) := match idx xs.length i with
  | some k => (match xs[k]? with
    | some y => if -(2 ^ 63) ≤ i ∧ i < 2 ^ 63 then .ok (y, xs.eraseIdx k) else .stuck
    | none => .stuck)
  | none => .stuck
theorem idx_seq {n : Nat} {i : Int} {k : Nat} (h : idx n i = some k) : seqIndex? i n = some k := by
  unfold idx at h
  unfold seqIndex?
  by_cases h0 : 0 ≤ i
  · rw [if_pos h0] at h
    by_cases h1 : i < n
    · rw [if_pos h1] at h; cases h
      have : ¬ i < 0 := by omega
      simp [this, h0, h1]
    · rw [if_neg h1] at h; cases h
  · rw [if_neg h0] at h
    by_cases h1 : -(n : Int) ≤ i
    · rw [if_pos h1] at h; cases h
      have h2 : i < 0 := by omega
      have h3 : 0 ≤ i + n := by omega
      have h4 : i + n < n := by omega
      simp [h2, h3, h4]
    · rw [if_neg h1] at h; cases h
theorem RpAll.erase {K : PySem.W.Frag} {F : Hp} : ∀ {vs : List V} {ds : List PyData} (i : Nat), RpAll K F vs ds → RpAll K F (vs.eraseIdx i) (ds.eraseIdx i)
  | _, _, _, .nil => by simpa using RpAll.nil
  | _, _, 0, .cons r t => by simpa using t
  | _, _, i + 1, .cons r t => by simpa using RpAll.cons r (t.erase i)
end
end Vs
end
section
set_option Elab.async false
set_option linter.all false
set_option maxRecDepth 100000
set_option maxHeartbeats 1000000
/-! Vs34: name = xs.pop(i). -/
namespace Vs
open Enc (toD)
open PySem PySem.Spec PyProof.Rows L2
section
variable {X : Cx} {W : WX} {ρ : Rs} {pos : Pos} {α β γ S τ Ω : Type} [Enc α] [Enc β] [Enc γ]
theorem map_erase {A B : Type} (f : A → B) : ∀ (l : List A) (i : Nat), (l.eraseIdx i).map f = (l.map f).eraseIdx i
  | [], _ => by simp
  | _ :: _, 0 => by simp
  | x :: l, i + 1 => by simp [map_erase f l i]
theorem popL_no {xs : List α} {i : Int} {c : Str} {j : Int} : popL xs i ≠ .exc c j := by
  unfold popL; split <;> (try split) <;> (try split) <;> intro h <;> cases h
/-- name = xs.pop(e), xs a slot's own list -/
theorem XB.popA (k i j : Nat) (ks : List Nat) {nm x : Str} {e : Expr} {p0 p1 p2 p3 : Pos} {xs : List α} {rest : List Stmt} {me : Res Int} {mr : α × List α → Res τ} {fin : τ → Fi} (ρ' : α × List α → Rs) (hN : X.N.Nodup) (hk : ρ[k]? = some (i, SV.ow (toD xs))) (he : XV X W ρ e me) (hr : ∀ p, XB X W (ρ' p) rest (mr p) fin)
    (hρ : ∀ p, ρ' p = (j, SV.sh (toD p.1)) :: (i, SV.ow (toD p.2)) :: keepAt ρ ks := by intro _; rfl) (ho : okK ρ [i, j] ks = true := by rfl) (hij : i ≠ j := by decide) (hi : X.N[i]? = some nm := by rfl) (hj : X.N[j]? = some x := by rfl)
    (hv : Vis X.env.scope nm := by first | exact Or.inl rfl | exact Or.inr (Or.inl rfl) | exact Or.inr (Or.inr rfl)) (hx : Loc X.env.scope x := by first | exact Or.inl rfl | exact Or.inr rfl) (hf : X.fn x = true ∨ X.env.scope.names.lookup x = some .local := by first | exact .inl rfl | exact .inr rfl)
    (hd : (nm == ("__debug__" : Str)) = false := by decide) (hcd : (nm == ("__classdict__" : Str)) = false := by decide) (hs : starEach [e] X.env = [(false, eval e X.env)] := by rfl)
    (hb : attributeBase (.Name nm p1) ("pop" : Str) X.env (eval (.Name nm p1) X.env) = eval (.Name nm p1) X.env := by rfl) (hl : (p2.endLine == p3.line) = true := by rfl) (hsw : swapsWith (.Call (.Attribute (.Name nm p1) ("pop" : Str) p2) [e] [] p3) (some (.Name x p0)) pos.line X.env = pure false := by rfl) :
    XB X W ρ (.Assign [.Name x p0] (.Call (.Attribute (.Name nm p1) ("pop" : Str) p2) [e] [] p3) pos :: rest) (do
    let y ← me
    let p ← popL xs y
    mr p) fin := by
  refine PSs.imp (pss_cons (ps_set hN hj hx (pe_bm PySem.F.plainAttrs_list PySem.F.slot_list_pop PySem.F.type_list_pop mt_popAt (pe_var hi hv hd hcd) (pa_cons he pa_nil hs) (hline := hl) (hfew := by rw [hs]; rfl) (hs := hs) (hbase := hb)) hsw hf) (PSs.ex hr)) fun D σ H ⟨F0, H0, F, R, p⟩ => ?_
  obtain ⟨a, vs, ea, e1, r, zf, z, hm⟩ := own_get R hk
  refine ⟨.ref a, ea, .inl ⟨rfl, vs, .inl (.inl e1)⟩, F0, H0, F, R, ?_⟩
  have q := PostS.bind R p
  cases me with
  | exc c i => exact q
  | stuck => exact q
  | ok y =>
    intro v F1 H1 g rv
    have p1 : PostS X.K X.N.length W F0 H0 F (popL xs y >>= mr) fin D := p
    cases ep : popL xs y with
    | exc c i => exact absurd ep popL_no
    | stuck => rw [ep] at p1; exact p1.elim
    | ok pr =>
      rw [ep, Res.ok_bind] at p1
      unfold popL at ep
      cases ei : idx xs.length y with
      | none => rw [ei] at ep; cases ep
      | some m =>
        rw [ei] at ep
        dsimp only at ep
        cases ex : xs[m]? with
        | none => rw [ex] at ep; cases ep
        | some w =>
          rw [ex] at ep
          dsimp only at ep
          by_cases hb2 : -(2 ^ 63) ≤ y ∧ y < 2 ^ 63
          · rw [if_pos hb2] at ep
            cases ep
            have e1' := g.h _ _ e1
            have zf' : F1 a = none := by rw [g.fn a (by rw [e1]; exact .lst)]; exact zf
            have h2 := r.length
            rw [List.length_map] at h2
            obtain ⟨u, eu, ru⟩ := (r.sub g.f).get (i := m) (d := toD w) (by rw [List.getElem?_map, ex]; rfl)
            refine ⟨a, vs, y, m, u, rfl, by rw [rv.int_of], e1', hb2.1, hb2.2, by rw [h2]; exact idx_seq ei, eu, (w, xs.eraseIdx m), F0, H0, F1, ?_, PostS.sub g.f p1⟩
            rw [hρ]
            have R1 : Rho X.K X.N.length F0 H0 F1 (upd H1 a (.lst (vs.eraseIdx m))) σ ((i, SV.ow (toD (xs.eraseIdx m))) :: keepAt ρ ks) := (R.grow g).mut hm ea (o := .lst (vs.eraseIdx m)) ⟨zf', .inl ⟨vs.eraseIdx m, _, upd_same, (r.sub g.f).erase m, by
              show toD (xs.eraseIdx m) = .list _
              rw [← map_erase]; rfl⟩⟩ fun p hp => by
                rcases List.mem_cons.mp hp with h | h
                · exact .inl h
                · exact .inr ⟨keep_mem h, fun z => keep_ne h ho (by simp [z])⟩
            refine R1.set (List.getElem?_eq_some_iff.mp hj).1 ru fun p hp => ?_
            rcases List.mem_cons.mp hp with h | h
            · exact .inl h
            · refine .inr ⟨h, fun z => ?_⟩
              rcases List.mem_cons.mp h with rfl | h
              · exact hij z
              · exact keep_ne h ho (by simp [z])
          · rw [if_neg hb2] at ep; cases ep
end
end Vs
end
section
set_option Elab.async false
set_option linter.all false
set_option maxRecDepth 100000
set_option maxHeartbeats 1000000
/-! Vs35: break in a for loop. -/
namespace Vs
open Enc (toD)
open PySem PySem.Spec PyProof.Rows L2
section
variable {X : Cx} {W : WX} {ρ : Rs} {pos : Pos} {α β γ S τ Ω : Type} [Enc α] [Enc β] [Enc γ]
def finB (ρh : S → Rs) : Ctl S S → Fi
  | .ex s => .bk (ρh s)
  | .nx s => .nx (ρh s)
def joinC : Ctl S S → S
  | .ex s => s
  | .nx s => s
/-- what follows such a loop -/
def thenJ {τ : Type} (k : S → Res τ) (t : Ctl S S) : Res τ := k (joinC t)
/-- for .., the body may leave by break -/
theorem XB.forB {tg iter : Expr} {body rest : List Stmt} {is : List Nat} {mi : Res (List α)} {s0 : S} {mb : S → α → Res (Ctl S S)} {mr : S → Res τ} {fin : τ → Fi} (ρh : S → Rs) (ρb : S → α → Rs) (hp : PassesOwn (model X.prog X.w) X.A X.env X.xe) (hc : X.calm = true)
    (hi : XI X W ρ tg iter mi) (hg : ∀ s x, XG X is (ρh s) tg (toD x) (ρb s x)) (hb : ∀ s x, XB X W (ρb s x) body (mb s x) (finB ρh)) (h0 : ∀ p ∈ ρh s0, p ∈ ρ)
    (hr : ∀ s, XB X W (ρh s) rest (mr s) fin) (hs : ∀ x, foldedSetIterable iter X.env x = pure x := by intro _; rfl) :
    XB X W ρ (.For tg iter body [] pos :: rest) (do
    let xs ← mi
    let t ← foldC mb xs s0
    thenJ mr t) fin := by
  refine PSs.imp (pss_cons (ps_for hp hc hi (PG.ex fun s => PG.ex fun x => hg s x) (PSs.ex fun s => PSs.ex fun x => hb s x) hs) (PSs.ex hr)) fun D σ H ⟨F0, H0, F, R, p⟩ => ⟨F0, H0, F, R, ?_⟩
  cases mi with
  | exc c i => exact excG R.base p
  | stuck => exact p
  | ok xs =>
    intro J F1 H1 g it hz
    have p1 : PostS X.K X.N.length W F0 H0 F1 (foldC mb xs s0 >>= thenJ mr) fin D := PostS.sub g.f p
    refine ⟨fun i m σ' H' => ∃ F' s, m = xs.length - i ∧ i ≤ xs.length ∧ Rho X.K X.N.length F0 H0 F' H' σ' (ρh s) ∧ Sub F1 F' ∧ PostS X.K X.N.length W F0 H0 F' (foldC mb (xs.drop i) s >>= thenJ mr) fin D,
      ⟨xs.length, F1, s0, by simp, Nat.zero_le _, (R.grow g).weak h0, fun _ _ e => e, p1⟩, ?_⟩
    rintro i m σ2 H2 ⟨F2, s, rfl, hi2, R2, sf, p2⟩
    by_cases hlt : i < xs.length
    · have ex : xs[i]? = some xs[i] := List.getElem?_eq_getElem hlt
      rw [drop_cons ex] at p2
      refine .inr ⟨it.go i F2 H2 sf R2.fh (by simpa using hlt), fun σ' H' => ∃ F' s', Rho X.K X.N.length F0 H0 F' H' σ' (ρh s') ∧ Sub F1 F' ∧ PostS X.K X.N.length W F0 H0 F' (foldC mb (xs.drop (i + 1)) s' >>= thenJ mr) fin D,
        fun σ' H' ⟨F', s', R', sf', p'⟩ => ⟨xs.length - (i + 1), by omega, F', s', rfl, hlt, R', sf', p'⟩, fun v H3 y => ?_⟩
      obtain ⟨F3, g3, r3⟩ := it.yld i F2 H2 (toD xs[i]) v H3 sf R2.fh (by rw [List.getElem?_map, ex]; rfl) y
      refine ⟨s, xs[i], F0, H0, F3, R2.grow g3, r3, fun σ4 R4 _ => ⟨s, xs[i], F0, H0, F3, R4, ?_⟩⟩
      have p3 : PostS X.K X.N.length W F0 H0 F3 ((mb s xs[i] >>= thenC (fun o => .ok (.ex o)) (foldC mb (xs.drop (i + 1)))) >>= thenJ mr) fin D := by
        have q := PostS.sub g3.f p2
        have e : foldC mb (xs[i] :: xs.drop (i + 1)) s = (mb s xs[i] >>= thenC (fun o => .ok (.ex o)) (foldC mb (xs.drop (i + 1)))) := by
          show (mb s xs[i] >>= fun t => _) = _
          cases mb s xs[i] with
          | ok t => cases t <;> rfl
          | exc c i => rfl
          | stuck => rfl
        rw [e] at q
        exact q
      cases eb : mb s xs[i] with
      | exc c i => rw [eb] at p3; exact p3
      | stuck => rw [eb] at p3; exact p3
      | ok t => cases t with
        | nx s' =>
          rw [eb] at p3
          exact fun σ' F' H' R' sf' => ⟨F', s', R', (sf.trans g3.f).trans sf', PostS.sub sf' p3⟩
        | ex s' =>
          rw [eb] at p3
          have p4 : PostS X.K X.N.length W F0 H0 F3 (mr s') fin D := p3
          exact fun σ' F' H' R' sf' => ⟨s', F0, H0, F', R', PostS.sub sf' p4⟩
    · have e : i = xs.length := by omega
      subst e
      refine .inl ⟨it.stop _ F2 H2 sf R2.fh (by simp), s, F0, H0, F2, R2, ?_⟩
      rw [List.drop_length] at p2
      exact p2
end
end Vs
end
section
set_option Elab.async false
set_option linter.all false
set_option maxRecDepth 100000
set_option maxHeartbeats 1000000
/-! Vs36: except C: .. without a name; gcd; a list of options read as a list. -/
namespace Vs
open Enc (toD)
open PySem PySem.Spec PyProof.Rows L2
section
variable {X : Cx} {W : WX} {ρ : Rs} {pos : Pos} {α β γ S τ Ω : Type} [Enc α] [Enc β] [Enc γ]
def tryN (known : List Str) (mB : Res S) (k : S → Res τ) (m : Res τ) : Res τ := match mB with
  | .ok s => k s
  | .exc c i => if c ∈ known then noX m else .stuck
  | .stuck => .stuck
/-- try: body (it goes on) / except C: .. (it returns), C takes all that the body may raise -/
theorem XB.tryN (known : List Str) {cl : Str} {body rest : List Stmt} {b0 : Stmt} {su : List Stmt} {np pe : Pos} {mB : Res S} {mr : S → Res τ} {m : Res τ} {fin : τ → Fi} (ρj : S → Rs) (hcl : X.mg cl = some (cv X.K cl)) (ex : ∀ c ∈ known, PySem.W.exmOne X.K (cv X.K c) (cv X.K cl) = some true) (tk : Takes X W)
    (hb : ∀ (W2 : WX) (pn : List (Addr × Obj)) (xe : Value → Shared → Prop), Takes (X.tr pn xe) W2 → PassesOwn (model X.prog X.w) X.A X.env xe → XB (X.tr pn xe) W2 ρ body mB fun s => .nx (ρj s))
    (hsu : ∀ (a : Nat) (oe : Obj) (pn : List (Addr × Obj)), (∃ vs, oe.data = .fields vs) → XB (X.suite a ((a, oe) :: pn)) (fun _ _ _ _ => False) [] (b0 :: su) m fin) (hr : ∀ s, XB X W (ρj s) rest (mr s) fin) (hfin : ∀ t, ∃ d, fin t = .rt d)
    (hg : Gl X cl := by rfl) (hdb : (cl == ("__debug__" : Str)) = false := by decide) (hs : X.stack = X.env :: X.outer := by rfl) (hf : X.env.frame = some X.env.locals := by rfl) : XB X W ρ (.Try body [.ExceptHandler (some (.Name cl np)) none (b0 :: su) pe] [] [] pos :: rest) (Vs.tryN known mB mr m) fin := by
  refine PSs.imp (pss_cons (ps_try_many hs hf tk (tb := fun W2 => rdS X.K X.N.length W2 ρ mB fun s => .nx (ρj s)) hb (.cons (x := cl) (c := cv X.K cl) (ts := fun a cls d D σ H => ∃ F0 H0 F, Grow F0 H0 F H ∧ PostS X.K X.N.length (fun _ _ _ _ => False) F0 H0 F m fin D) ⟨hg, hdb, .inl hcl⟩ (fun a oe cls d pn hz hf => ⟨fun pins s σ H D I ⟨F0, H0, F, g, p⟩ => ?_⟩) .nil)) (PSs.ex hr)) fun D σ H ⟨F0, H0, F, R, p⟩ => ⟨F0, H0, F, R, ?_⟩
  · exact (hsu a oe pn hf).run pins s σ H D I ⟨F0, H0, F, ⟨I.len, g, fun j d' hm => by simp at hm, fun j d' hm => by simp at hm, fun j1 j2 d1 d2 b m1 => by simp at m1⟩, p⟩
  · cases mB with
    | stuck => exact p
    | ok s => exact fun σ' F' H' R' sf => ⟨s, F0, H0, F', R', PostS.sub sf p⟩
    | exc c i =>
      have p1 : PostS X.K X.N.length W F0 H0 F (if c ∈ known then noX m else .stuck) fin D := p
      by_cases hc : c ∈ known
      · rw [if_pos hc] at p1
        intro dx F' H' σ' g hx hn
        refine ⟨true, ex c hc, fun _ a na => ⟨F0, H0, F', g, ?_⟩, fun h => by cases h⟩
        cases em : m with
        | exc c2 i2 => rw [em] at p1; exact p1.elim
        | stuck => rw [em] at p1; exact p1.elim
        | ok t =>
          rw [em] at p1
          obtain ⟨d, ed⟩ := hfin t
          have p3 : (match fin t with
            | .nx ρ' => ∀ σ' F' H', Rho X.K X.N.length F0 H0 F' H' σ' ρ' → Sub F F' → D.nx σ' H'
            | .rt d => ∀ v F' H', Grow F0 H0 F' H' → Rp X.K F' v d → D.rt v H'
            | .bk ρ' => ∀ σ' F' H', Rho X.K X.N.length F0 H0 F' H' σ' ρ' → Sub F F' → D.bk σ' H') := p1
          rw [ed] at p3
          show (match fin t with
            | .nx ρ' => _
            | .rt d => _
            | .bk ρ' => _)
          rw [ed]
          exact p3
      · rw [if_neg hc] at p1
        exact p1.elim
/-! ### gcd -/
def gcdI (a b : Int) : Int := (Nat.gcd a.natAbs b.natAbs : Nat)
theorem XV.gcd {a b : Expr} {x : Str} {p : Pos} {ma mb : Res Int} (hm : X.mg x = some (.builtin "math.gcd")) (ha : XV X W ρ a ma) (hb : XV X W ρ b mb) (hg : Gl X x := by rfl) (hdb : (x == ("__debug__" : Str)) = false := by decide) (hs : starEach [a, b] X.env = (false, eval a X.env) :: starEach [b] X.env := by rfl) (hs2 : starEach [b] X.env = [(false, eval b X.env)] := by rfl)
    (hpl : (backTo pos (starEach [b] X.env)).any (·.1) = false := by rfl) : XV X W ρ (.Call (.Name x p) [a, b] [] pos) (do
    let i ← ma
    let j ← mb
    .ok (gcdI i j)) := by
  refine PE.imp (pe_callBfun cr_gcd hg hm (XA.cons ha (XA.cons hb XA.nil hs2) hs) hdb hs hpl) fun σ H Q ⟨F0, H0, F, R, p⟩ => ⟨F0, H0, F, R, ?_⟩
  cases ma with
  | exc c i => exact p
  | stuck => exact p
  | ok x => cases mb with
    | exc c i => exact p
    | stuck => exact p
    | ok y =>
      intro vs F1 H1 g1 r1
      cases r1 with
      | cons r1 t => cases t with
        | cons r2 t =>
          cases t
          exact ⟨x, y, by rw [r1.int_of, r2.int_of], p _ F1 H1 g1 (.int _)⟩
/-! ### a list of options, none of them None -/
def unOs : List (Option α) → Res (List α)
  | [] => .ok []
  | some x :: xs => unOs xs >>= fun ys => .ok (x :: ys)
  | none :: _ => .stuck
theorem unOs_cases : ∀ xs : List (Option α), unOs xs = .stuck ∨ ∃ ys, unOs xs = .ok ys ∧ ys.map toD = xs.map toD
  | [] => .inr ⟨[], rfl, rfl⟩
  | some x :: xs => by
    rcases unOs_cases xs with e | ⟨ys, e, q⟩
    · exact .inl (by show (unOs xs >>= _) = _; rw [e]; rfl)
    · exact .inr ⟨x :: ys, by show (unOs xs >>= _) = _; rw [e]; rfl, by rw [List.map_cons, List.map_cons, q]; rfl⟩
  | none :: _ => .inl rfl
theorem XV.unOs {e : Expr} {m : Res (List (Option α))} (h : XV X W ρ e m) : XV X W ρ e (m >>= Vs.unOs) := h.recast fun x => by
  rcases unOs_cases x with e | ⟨ys, e, q⟩
  · exact .inl e
  · exact .inr ⟨ys, e, by show PyData.list _ = .list _; rw [q]⟩
end
end Vs
end
section
set_option Elab.async false
set_option linter.all false
set_option maxRecDepth 100000
set_option maxHeartbeats 1000000
/-! Vs37: is True, is not True. -/
namespace Vs
open Enc (toD)
open PySem PySem.Spec PyProof.Rows L2
section
variable {X : Cx} {W : WX} {ρ : Rs} {pos : Pos}
theorem c_isB : CmpOk X .Is (fun a b : Bool => decide (a = b)) := OpR.imp op_isBl fun vx vy H Q ⟨F, x, y, s, r1, r2, q⟩ => ⟨x, y, r1.bl_of, r2.bl_of, by
  have e : decide (x = y) = (x == y) := by cases x <;> cases y <;> rfl
  first | exact q | (rw [← e]; exact q) | (rw [e] at q; exact q)⟩
theorem c_isNotB : CmpOk X .IsNot (fun a b : Bool => !decide (a = b)) := OpR.imp op_notBl fun vx vy H Q ⟨F, x, y, s, r1, r2, q⟩ => ⟨x, y, r1.bl_of, r2.bl_of, by
  have e : (!decide (x = y)) = (x != y) := by cases x <;> cases y <;> rfl
  first | exact q | (rw [← e]; exact q) | (rw [e] at q; exact q)⟩
end
end Vs
end
section
set_option Elab.async false
set_option linter.all false
set_option maxRecDepth 100000
set_option maxHeartbeats 0
noncomputable section
namespace Law
open Vs.Enc (toD)
open PySem PySem.Spec PyProof.Rows L2 Vs
def top (i : Nat) : Stmt := PySem.Challenge.pw_dugtold_k94_whole_woods_of_one_master.main.body.getD i (.Pass ⟨0, 0, 0, 0⟩)
abbrev s_fraction : Stmt := top 13
abbrev s_check_row : Stmt := top 18
abbrev s_check_rows : Stmt := top 19
abbrev s_rises_of : Stmt := top 20
abbrev s_agreement_of : Stmt := top 21
abbrev s_agreement : Stmt := top 22
abbrev s_is_better : Stmt := top 23
abbrev s_best_shift : Stmt := top 24
abbrev s_check_records : Stmt := top 30
abbrev s_steps_of : Stmt := top 31
abbrev s_told_years : Stmt := top 32
abbrev s_unlike_record : Stmt := top 33
abbrev s_years : Stmt := top 34
abbrev s_do_fit : Stmt := top 35
abbrev s_ring : Stmt := top 36
abbrev s_is_row : Stmt := top 37
abbrev s_mean_row : Stmt := top 38
abbrev s_check_laid : Stmt := top 41
abbrev s_cost : Stmt := top 42
abbrev s_tables_of : Stmt := top 43
abbrev s_best_behind : Stmt := top 44
abbrev s_least_laying : Stmt := top 45
abbrev s_count_least : Stmt := top 46
abbrev s__law_draws : Stmt := top 48
abbrev s__law_mix : Stmt := top 49
abbrev s__law_row : Stmt := top 50
abbrev s_law : Stmt := top 51
abbrev kn : List Str := ["OutOfRange", "TooMany", "TooLarge", "WrongSize", "BadRecord", "BadRow", "BadWidth", "BadPrice", "BadYear"]
/-- what the module has not bound, its numbers, its errors -/
structure Bi (P : Program) (K : PySem.W.Frag) (mg : Str → Option Value) : Prop where
  b_abs : mg "abs" = none
  b_all : mg "all" = none
  b_enumerate : mg "enumerate" = none
  b_int : mg "int" = none
  b_len : mg "len" = none
  b_list : mg "list" = none
  b_max : mg "max" = none
  b_min : mg "min" = none
  b_range : mg "range" = none
  b_reversed : mg "reversed" = none
  b_sum : mg "sum" = none
  b_zip : mg "zip" = none
  g_gcd : mg "gcd" = some (.builtin "math.gcd")
  c_LEAST_RINGS : ∃ t, mg "LEAST_RINGS" = some (.int 2 t)
  c_MOST_RINGS : ∃ t, mg "MOST_RINGS" = some (.int 40 t)
  c_MOST_WIDTH : ∃ t, mg "MOST_WIDTH" = some (.int 1000 t)
  c_MOST_WOODS : ∃ t, mg "MOST_WOODS" = some (.int 10 t)
  c_MOST_RECORDS : ∃ t, mg "MOST_RECORDS" = some (.int 30 t)
  c_MOST_SHIFT : ∃ t, mg "MOST_SHIFT" = some (.int 1000 t)
  c_MOST_ROWS : ∃ t, mg "MOST_ROWS" = some (.int 10 t)
  c_MOST_PRICE : ∃ t, mg "MOST_PRICE" = some (.int 1000000 t)
  exm : Exm K kn
  dig : ∀ c ∈ kn, DigT P K mg c
  cl_base : mg "DigError" = some (cv K "DigError")
  exd : ∀ c ∈ kn, PySem.W.exmOne K (cv K c) (cv K "DigError") = some true
def N.fraction (number : Int) (by_ : Int) : Res (Int × Int) :=
  (if (decide (by_ < (0 : Int))) then (let α1 : Int := (-number)
  (let α2 : Int := (-by_)
  .ok (α1, α2))) else
  (.ok (number, by_))) >>= fun σ3 => (let common : Int := (gcdI σ3.1 σ3.2)
  (fdivI σ3.1 common) >>= fun τ4 => (fdivI σ3.2 common) >>= fun τ5 => .ok (τ4, τ5))
def M.fraction (number : Int) (by_ : Int) : Res (Int × Int) :=
  (((.ok by_) >>= fun a => (.ok (0 : Int)) >>= fun b => .ok (decide (a < b))) >>= fun b => (if b then (((.ok number) >>= fun a => Res.ok (-a)) >>= fun α1 => ((.ok by_) >>= fun a => Res.ok (-a)) >>= fun α2 => (.ok (α1, α2))) else (.ok (number, by_))) >>= fun σ3 => (((.ok σ3.1) >>= fun a => (.ok σ3.2) >>= fun b => .ok (gcdI a b)) >>= fun common => (((.ok σ3.1) >>= fun a => (.ok common) >>= fun b => fdivI a b) >>= fun a => ((.ok σ3.2) >>= fun a => (.ok common) >>= fun b => fdivI a b) >>= fun b => Res.ok (a, b))))
theorem M.fraction_eq : @M.fraction = @N.fraction := by
  funext number by_
  delta M.fraction
  delta N.fraction
  simp only [Res.bind_assoc', Res.ok_bind2, Res.bind_ok] <;> rfl
theorem sc_fraction : FnScope ["number", "by", "common"] ["number", "by"] (defScope s_fraction) := ⟨rfl, rfl, rfl, by decide +kernel, rfl, by decide +kernel, by decide +kernel⟩
theorem ok_fraction {P : Program} {w : World} {K : PySem.W.Frag} {mg : Str → Option Value} {base : Heap} (bi : Bi P K mg) {fa : Addr} {fd : FuncData} (F : FunD K "fraction" "fraction" (defArgs s_fraction) (defBody s_fraction) (defScope s_fraction) [] [] fa fd)   :
    FnV P w K mg base 2 fa fd ["number", "by"] (Rn2 N.fraction) := by
  rw [← M.fraction_eq]
  refine fn2 F sc_fraction rfl (by decide) fun cdv A outer s H E gr number by_ => ?_
  have tk : Takes (defX P w K mg base ["number", "by", "common"] "fraction" (defScope s_fraction) fa cdv A outer s H E) (defW E) := takes_of rfl rfl rfl rfl
  have hp : PassesOwn (model (defX P w K mg base ["number", "by", "common"] "fraction" (defScope s_fraction) fa cdv A outer s H E).prog (defX P w K mg base ["number", "by", "common"] "fraction" (defScope s_fraction) fa cdv A outer s H E).w) (defX P w K mg base ["number", "by", "common"] "fraction" (defScope s_fraction) fa cdv A outer s H E).A (defX P w K mg base ["number", "by", "common"] "fraction" (defScope s_fraction) fa cdv A outer s H E).env (defX P w K mg base ["number", "by", "common"] "fraction" (defScope s_fraction) fa cdv A outer s H E).xe := passes_of rfl
  have hN := sc_fraction.nd
  unfold M.fraction
  refine XB.ifN (fun (σ3 : Int × Int) => [(0, SV.sh (toD σ3.1)), (1, SV.sh (toD σ3.2))]) ?tst ?_ ?_ ?_
  case tst => exact (XT.cmp c_lt (XV.w (XV.var 1 rfl)) (XV.w XV.int))
  · skip
    refine XB.par2 0 1 [] (fun α1 α2 => [(1, SV.sh (toD α2)), (0, SV.sh (toD α1))]) hN ?ex ?ey ?_
    case ex => exact (XV.neg (XV.var 0 rfl))
    case ey => exact (XV.neg (XV.var 1 rfl))
    intro α1 α2
    exact XB.nilT (t := (α1, α2)) rfl (wk [1, 0])
  · skip
    exact XB.nilT (t := (number, by_)) rfl (wk [0, 1])
  intro σ3
  refine XB.asg 2 [0, 1] (fun common => [(2, SV.sh (toD common)), (0, SV.sh (toD σ3.1)), (1, SV.sh (toD σ3.2))]) hN ?ex ?_
  case ex => exact (XV.gcd bi.g_gcd (XV.var 0 rfl) (XV.var 1 rfl))
  intro common
  exact XB.ret (XV.tup2 (XV.bin o_fdiv (XV.var 1 rfl) (XV.var 0 rfl)) (XV.bin o_fdiv (XV.var 2 rfl) (XV.var 0 rfl)))
def N.check_row_l1  : (Unit) → (Int × Int) → Res (Unit) := fun σ2 ξ3 =>
  (if decide ((1 : Int) ≤ ξ3.2) then (.ok (decide (ξ3.2 ≤ 1000))) else .ok false) >>= fun τ4 => (if (!τ4) then dropE (.exc "BadWidth" ξ3.1) else
  (.ok ()))
def N.check_row (row : (List Int)) : Res Unit :=
  (if decide (2 ≤ (lenL row)) then (.ok (decide ((lenL row) ≤ 40))) else .ok false) >>= fun τ1 => (if (!τ1) then dropE (.exc "WrongSize" (lenL row)) else
  ((foldR (N.check_row_l1) (enumL row) ()) >>= fun σ5 => .ok ()))
def M.check_row (row : (List Int)) : Res Unit :=
  ((((.ok (2 : Int)) >>= fun a => ((.ok row) >>= fun a => Res.ok (lenL a)) >>= fun b => if decide (a ≤ b) then (.ok (40 : Int)) >>= fun c => .ok (decide (b ≤ c)) else .ok false) >>= fun a => Res.ok (!a)) >>= fun b => if b then dropE (((.ok row) >>= fun a => Res.ok (lenL a)) >>= fun i => .exc "WrongSize" i) else (((.ok row) >>= fun a => .ok (enumL a)) >>= fun xs => foldR (fun σ2 ξ3 => ((((.ok (1 : Int)) >>= fun a => (.ok ξ3.2) >>= fun b => if decide (a ≤ b) then (.ok (1000 : Int)) >>= fun c => .ok (decide (b ≤ c)) else .ok false) >>= fun a => Res.ok (!a)) >>= fun b => if b then dropE ((.ok ξ3.1) >>= fun i => .exc "BadWidth" i) else (.ok ()))) xs () >>= fun σ5 => (.ok ())))
theorem M.check_row_eq : @M.check_row = @N.check_row := by
  funext row
  delta M.check_row
  delta N.check_row
  delta N.check_row_l1
  simp only [Res.bind_assoc', Res.ok_bind2, Res.bind_ok] <;> rfl
theorem sc_check_row : FnScope ["row", "i", "width"] ["row"] (defScope s_check_row) := ⟨rfl, rfl, rfl, by decide +kernel, rfl, by decide +kernel, by decide +kernel⟩
theorem ok_check_row {P : Program} {w : World} {K : PySem.W.Frag} {mg : Str → Option Value} {base : Heap} (bi : Bi P K mg) {fa : Addr} {fd : FuncData} (F : FunD K "check_row" "check_row" (defArgs s_check_row) (defBody s_check_row) (defScope s_check_row) [] [] fa fd)   :
    FnV P w K mg base 4 fa fd ["row"] (Rn1 N.check_row) := by
  rw [← M.check_row_eq]
  refine fn1p F sc_check_row rfl (by decide) fun cdv A outer s H E gr row => ?_
  have tk : Takes (defX P w K mg base ["row", "i", "width"] "check_row" (defScope s_check_row) fa cdv A outer s H E) (defW E) := takes_of rfl rfl rfl rfl
  have hp : PassesOwn (model (defX P w K mg base ["row", "i", "width"] "check_row" (defScope s_check_row) fa cdv A outer s H E).prog (defX P w K mg base ["row", "i", "width"] "check_row" (defScope s_check_row) fa cdv A outer s H E).w) (defX P w K mg base ["row", "i", "width"] "check_row" (defScope s_check_row) fa cdv A outer s H E).A (defX P w K mg base ["row", "i", "width"] "check_row" (defScope s_check_row) fa cdv A outer s H E).env (defX P w K mg base ["row", "i", "width"] "check_row" (defScope s_check_row) fa cdv A outer s H E).xe := passes_of rfl
  have hN := sc_check_row.nd
  unfold M.check_row
  refine XB.ifX ?tst ?_ ?_
  case tst => exact (XT.not (XT.chain c_le c_le (XV.w (XV.globI bi.c_LEAST_RINGS)) (XV.w (XV.callB b_len (by rfl) bi.b_len (by rfl) (XV.w (XV.var 0 rfl)))) (XV.w (XV.globI bi.c_MOST_RINGS))))
  · skip
    exact XB.raise (bi.dig "WrongSize" (by decide)) gr rfl tk (XV.callB b_len (by rfl) bi.b_len (by rfl) (XV.w (XV.var 0 rfl)))
  · skip
    refine XB.forS (fun (σ2 : Unit) => []) (fun (σ2 : Unit) (ξ3 : (Int × Int)) => [(2, SV.sh (toD ξ3.2)), (1, SV.sh (toD ξ3.1))]) hp rfl (XI.enum bi.b_enumerate (XV.var 0 rfl)) (fun σ2 ξ3 => (XG.tup rfl (XGs.cons (ρ1 := [(1, SV.sh (toD ξ3.1))]) (XG.name 1 [] hN) (XGs.cons (ρ1 := [(2, SV.sh (toD ξ3.2)), (1, SV.sh (toD ξ3.1))]) (XG.name 2 [0] hN) XGs.nil)))) ?_ (wk []) ?_
    · intro σ2 ξ3
      refine XB.ifX ?tst ?_ ?_
      case tst => exact (XT.not (XT.chain c_le c_le (XV.w XV.int) (XV.w (XV.var 0 rfl)) (XV.w (XV.globI bi.c_MOST_WIDTH))))
      · skip
        exact XB.raise (bi.dig "BadWidth" (by decide)) gr rfl tk (XV.var 1 rfl)
      · skip
        exact XB.nilT (t := ()) rfl (wk [])
    intro σ5
    exact XB.nilT rfl (wk [])
def N.check_rows (first : (List Int)) (second : (List Int)) : Res Unit :=
  (N.check_row first) >>= fun τ1 => (N.check_row second) >>= fun τ2 => .ok ()
def M.check_rows (first : (List Int)) (second : (List Int)) : Res Unit :=
  (((.ok first) >>= fun x1 => N.check_row x1) >>= fun _ => (((.ok second) >>= fun x1 => N.check_row x1) >>= fun _ => (.ok ())))
theorem M.check_rows_eq : @M.check_rows = @N.check_rows := by
  funext first second
  delta M.check_rows
  delta N.check_rows
  simp only [Res.bind_assoc', Res.ok_bind2, Res.bind_ok] <;> rfl
theorem sc_check_rows : FnScope ["first", "second"] ["first", "second"] (defScope s_check_rows) := ⟨rfl, rfl, rfl, by decide +kernel, rfl, by decide +kernel, by decide +kernel⟩
theorem ok_check_rows {P : Program} {w : World} {K : PySem.W.Frag} {mg : Str → Option Value} {base : Heap} (bi : Bi P K mg) {fa : Addr} {fd : FuncData} (F : FunD K "check_rows" "check_rows" (defArgs s_check_rows) (defBody s_check_rows) (defScope s_check_rows) [] [] fa fd) {f_check_row : Addr} {fd_check_row : FuncData} (C_check_row : FnC K mg "check_row" f_check_row fd_check_row ["row"]) (G_check_row : FnV P w K mg base 4 f_check_row fd_check_row ["row"] (Rn1 N.check_row)) :
    FnV P w K mg base 5 fa fd ["first", "second"] (Rn2 N.check_rows) := by
  rw [← M.check_rows_eq]
  refine fn2p F sc_check_rows rfl (by decide) fun cdv A outer s H E gr first second => ?_
  have tk : Takes (defX P w K mg base ["first", "second"] "check_rows" (defScope s_check_rows) fa cdv A outer s H E) (defW E) := takes_of rfl rfl rfl rfl
  have hp : PassesOwn (model (defX P w K mg base ["first", "second"] "check_rows" (defScope s_check_rows) fa cdv A outer s H E).prog (defX P w K mg base ["first", "second"] "check_rows" (defScope s_check_rows) fa cdv A outer s H E).w) (defX P w K mg base ["first", "second"] "check_rows" (defScope s_check_rows) fa cdv A outer s H E).A (defX P w K mg base ["first", "second"] "check_rows" (defScope s_check_rows) fa cdv A outer s H E).env (defX P w K mg base ["first", "second"] "check_rows" (defScope s_check_rows) fa cdv A outer s H E).xe := passes_of rfl
  have hN := sc_check_rows.nd
  unfold M.check_rows
  refine XB.expr ?ex ?_
  case ex => exact (XV.fn1 (G_check_row.mono (by decide)) C_check_row gr tk (XV.var 0 rfl))
  refine XB.expr ?ex ?_
  case ex => exact (XV.fn1 (G_check_row.mono (by decide)) C_check_row gr tk (XV.var 1 rfl))
  exact XB.nilT rfl (wk [])
def N.rises_of (row : (List Int)) : Res (List Int) :=
  (lcR (fun ξ1 => .ok true) (fun ξ1 => .ok ((boolI (decide (ξ1.1 < ξ1.2))) - (boolI (decide (ξ1.2 < ξ1.1))))) (row.zip (cutL row (some (1 : Int)) none))) >>= fun τ2 => .ok τ2
def M.rises_of (row : (List Int)) : Res (List Int) :=
  (((.ok row) >>= fun a => ((.ok row) >>= fun a => ((.ok (1 : Int)) >>= fun z => .ok (some z)) >>= fun b => (.ok none) >>= fun c => Res.ok (cutL a b c)) >>= fun b => .ok (a.zip b)) >>= fun xs => lcR (fun ξ1 => (.ok true)) (fun ξ1 => ((((.ok ξ1.2) >>= fun a => (.ok ξ1.1) >>= fun b => .ok (decide (b < a))) >>= fun a => Res.ok (boolI a)) >>= fun a => (((.ok ξ1.2) >>= fun a => (.ok ξ1.1) >>= fun b => .ok (decide (a < b))) >>= fun a => Res.ok (boolI a)) >>= fun b => Res.ok (a - b))) xs)
theorem M.rises_of_eq : @M.rises_of = @N.rises_of := by
  funext row
  delta M.rises_of
  delta N.rises_of
  simp only [Res.bind_assoc', Res.ok_bind2, Res.bind_ok] <;> rfl
theorem sc_rises_of : FnScope ["row", "one", "two"] ["row"] (defScope s_rises_of) := ⟨rfl, rfl, rfl, by decide +kernel, rfl, by decide +kernel, by decide +kernel⟩
theorem ok_rises_of {P : Program} {w : World} {K : PySem.W.Frag} {mg : Str → Option Value} {base : Heap} (bi : Bi P K mg) {fa : Addr} {fd : FuncData} (F : FunD K "rises_of" "rises_of" (defArgs s_rises_of) (defBody s_rises_of) (defScope s_rises_of) [] [] fa fd)   :
    FnV P w K mg base 2 fa fd ["row"] (Rn1 N.rises_of) := by
  rw [← M.rises_of_eq]
  refine fn1 F sc_rises_of rfl (by decide) fun cdv A outer s H E gr row => ?_
  have tk : Takes (defX P w K mg base ["row", "one", "two"] "rises_of" (defScope s_rises_of) fa cdv A outer s H E) (defW E) := takes_of rfl rfl rfl rfl
  have hp : PassesOwn (model (defX P w K mg base ["row", "one", "two"] "rises_of" (defScope s_rises_of) fa cdv A outer s H E).prog (defX P w K mg base ["row", "one", "two"] "rises_of" (defScope s_rises_of) fa cdv A outer s H E).w) (defX P w K mg base ["row", "one", "two"] "rises_of" (defScope s_rises_of) fa cdv A outer s H E).A (defX P w K mg base ["row", "one", "two"] "rises_of" (defScope s_rises_of) fa cdv A outer s H E).env (defX P w K mg base ["row", "one", "two"] "rises_of" (defScope s_rises_of) fa cdv A outer s H E).xe := passes_of rfl
  have hN := sc_rises_of.nd
  unfold M.rises_of
  exact XB.ret (XF.v (XF.lc [("one", 1), ("two", 2)] [0] [(0, SV.sh (toD row))] (fun ξ1 => [(2, SV.sh (toD ξ1.2)), (1, SV.sh (toD ξ1.1)), (0, SV.sh (toD row))]) rfl hN (XI.zip bi.b_zip (XV.var 0 rfl) (XF.v (XF.slice (XV.w (XV.var 0 rfl)) (XO.some XV.int) XO.none))) (by rfl) (fun ξ1 _ _ _ _ _ => (XG.tup rfl (XGs.cons (ρ1 := [(1, SV.sh (toD ξ1.1)), (0, SV.sh (toD row))]) (XG.name 1 [0] hN) (XGs.cons (ρ1 := [(2, SV.sh (toD ξ1.2)), (1, SV.sh (toD ξ1.1)), (0, SV.sh (toD row))]) (XG.name 2 [0, 1] hN) XGs.nil)))) (fun ξ1 _ _ _ _ _ => XTs.nil) (fun ξ1 _ _ _ _ _ => (XV.bin o_sub (XV.callT b_intB (by rfl) bi.b_int (by rfl) (XV.w (XV.cmp c_gt (XV.w (XV.var 0 rfl)) (XV.w (XV.var 1 rfl))))) (XV.callT b_intB (by rfl) bi.b_int (by rfl) (XV.w (XV.cmp c_lt (XV.w (XV.var 0 rfl)) (XV.w (XV.var 1 rfl)))))))))
def N.agreement_of_l1 (first : (List Int)) (shift : Int) : (Int × Int) → (Int × Int) → Res (Int × Int) := fun σ1 ξ2 =>
  (if decide ((0 : Int) ≤ (ξ2.1 + shift)) then (.ok (decide ((ξ2.1 + shift) < (lenL first)))) else .ok false) >>= fun τ3 => (if τ3 then (let overlap : Int := (σ1.1 + (1 : Int))
  (getL first (ξ2.1 + shift)) >>= fun τ5 => (let agree : Int := (σ1.2 + (boolI (decide (τ5 = ξ2.2))))
  .ok (overlap, agree))) else
  (.ok (σ1.1, σ1.2))) >>= fun σ6 => .ok (σ6.1, σ6.2)
def N.agreement_of (first : (List Int)) (second : (List Int)) (shift : Int) : Res (Int × Int) :=
  (let agree : Int := (0 : Int)
  (let overlap : Int := (0 : Int)
  (foldR (N.agreement_of_l1 first shift) (enumL second) (overlap, agree)) >>= fun σ7 => .ok (σ7.2, σ7.1)))
def M.agreement_of (first : (List Int)) (second : (List Int)) (shift : Int) : Res (Int × Int) :=
  ((.ok (0 : Int)) >>= fun agree => ((.ok (0 : Int)) >>= fun overlap => (((.ok second) >>= fun a => .ok (enumL a)) >>= fun xs => foldR (fun σ1 ξ2 => (((.ok (0 : Int)) >>= fun a => ((.ok ξ2.1) >>= fun a => (.ok shift) >>= fun b => Res.ok (a + b)) >>= fun b => if decide (a ≤ b) then ((.ok first) >>= fun a => Res.ok (lenL a)) >>= fun c => .ok (decide (b < c)) else .ok false) >>= fun b => (if b then (((.ok σ1.1) >>= fun a => (.ok (1 : Int)) >>= fun b => Res.ok (a + b)) >>= fun overlap => (((.ok σ1.2) >>= fun a => ((((.ok first) >>= fun a => ((.ok ξ2.1) >>= fun a => (.ok shift) >>= fun b => Res.ok (a + b)) >>= fun b => getL a b) >>= fun a => (.ok ξ2.2) >>= fun b => .ok (decide (a = b))) >>= fun a => Res.ok (boolI a)) >>= fun b => Res.ok (a + b)) >>= fun agree => (.ok (overlap, agree)))) else (.ok (σ1.1, σ1.2))) >>= fun σ6 => (.ok (σ6.1, σ6.2)))) xs (overlap, agree) >>= fun σ7 => ((.ok σ7.2) >>= fun a => (.ok σ7.1) >>= fun b => Res.ok (a, b)))))
theorem M.agreement_of_eq : @M.agreement_of = @N.agreement_of := by
  funext first second shift
  delta M.agreement_of
  delta N.agreement_of
  delta N.agreement_of_l1
  simp only [Res.bind_assoc', Res.ok_bind2, Res.bind_ok] <;> rfl
theorem sc_agreement_of : FnScope ["first", "second", "shift", "agree", "overlap", "i", "rise"] ["first", "second", "shift"] (defScope s_agreement_of) := ⟨rfl, rfl, rfl, by decide +kernel, rfl, by decide +kernel, by decide +kernel⟩
theorem ok_agreement_of {P : Program} {w : World} {K : PySem.W.Frag} {mg : Str → Option Value} {base : Heap} (bi : Bi P K mg) {fa : Addr} {fd : FuncData} (F : FunD K "agreement_of" "agreement_of" (defArgs s_agreement_of) (defBody s_agreement_of) (defScope s_agreement_of) [] [] fa fd)   :
    FnV P w K mg base 2 fa fd ["first", "second", "shift"] (Rn3 N.agreement_of) := by
  rw [← M.agreement_of_eq]
  refine fn3 F sc_agreement_of rfl (by decide) fun cdv A outer s H E gr first second shift => ?_
  have tk : Takes (defX P w K mg base ["first", "second", "shift", "agree", "overlap", "i", "rise"] "agreement_of" (defScope s_agreement_of) fa cdv A outer s H E) (defW E) := takes_of rfl rfl rfl rfl
  have hp : PassesOwn (model (defX P w K mg base ["first", "second", "shift", "agree", "overlap", "i", "rise"] "agreement_of" (defScope s_agreement_of) fa cdv A outer s H E).prog (defX P w K mg base ["first", "second", "shift", "agree", "overlap", "i", "rise"] "agreement_of" (defScope s_agreement_of) fa cdv A outer s H E).w) (defX P w K mg base ["first", "second", "shift", "agree", "overlap", "i", "rise"] "agreement_of" (defScope s_agreement_of) fa cdv A outer s H E).A (defX P w K mg base ["first", "second", "shift", "agree", "overlap", "i", "rise"] "agreement_of" (defScope s_agreement_of) fa cdv A outer s H E).env (defX P w K mg base ["first", "second", "shift", "agree", "overlap", "i", "rise"] "agreement_of" (defScope s_agreement_of) fa cdv A outer s H E).xe := passes_of rfl
  have hN := sc_agreement_of.nd
  unfold M.agreement_of
  refine XB.asg 3 [0, 1, 2] (fun agree => [(3, SV.sh (toD agree)), (0, SV.sh (toD first)), (1, SV.sh (toD second)), (2, SV.sh (toD shift))]) hN ?ex ?_
  case ex => exact XV.int
  intro agree
  refine XB.asg 4 [0, 1, 2, 3] (fun overlap => [(4, SV.sh (toD overlap)), (3, SV.sh (toD agree)), (0, SV.sh (toD first)), (1, SV.sh (toD second)), (2, SV.sh (toD shift))]) hN ?ex ?_
  case ex => exact XV.int
  intro overlap
  refine XB.forS (fun (σ1 : Int × Int) => [(4, SV.sh (toD σ1.1)), (3, SV.sh (toD σ1.2)), (0, SV.sh (toD first)), (2, SV.sh (toD shift))]) (fun (σ1 : Int × Int) (ξ2 : (Int × Int)) => [(6, SV.sh (toD ξ2.2)), (5, SV.sh (toD ξ2.1)), (4, SV.sh (toD σ1.1)), (3, SV.sh (toD σ1.2)), (0, SV.sh (toD first)), (2, SV.sh (toD shift))]) hp rfl (XI.enum bi.b_enumerate (XV.var 3 rfl)) (fun σ1 ξ2 => (XG.tup rfl (XGs.cons (ρ1 := [(5, SV.sh (toD ξ2.1)), (4, SV.sh (toD σ1.1)), (3, SV.sh (toD σ1.2)), (0, SV.sh (toD first)), (2, SV.sh (toD shift))]) (XG.name 5 [0, 1, 2, 3] hN) (XGs.cons (ρ1 := [(6, SV.sh (toD ξ2.2)), (5, SV.sh (toD ξ2.1)), (4, SV.sh (toD σ1.1)), (3, SV.sh (toD σ1.2)), (0, SV.sh (toD first)), (2, SV.sh (toD shift))]) (XG.name 6 [0, 1, 2, 3, 4] hN) XGs.nil)))) ?_ (wk [0, 1, 2, 4]) ?_
  · intro σ1 ξ2
    refine XB.ifN (fun (σ6 : Int × Int) => [(4, SV.sh (toD σ6.1)), (3, SV.sh (toD σ6.2)), (0, SV.sh (toD first)), (2, SV.sh (toD shift))]) ?tst ?_ ?_ ?_
    case tst => exact (XT.chain c_le c_lt (XV.w XV.int) (XV.w (XV.bin o_add (XV.var 1 rfl) (XV.var 5 rfl))) (XV.w (XV.callB b_len (by rfl) bi.b_len (by rfl) (XV.w (XV.var 4 rfl)))))
    · skip
      refine XB.asg 4 [0, 1, 3, 4, 5] (fun overlap => [(4, SV.sh (toD overlap)), (6, SV.sh (toD ξ2.2)), (5, SV.sh (toD ξ2.1)), (3, SV.sh (toD σ1.2)), (0, SV.sh (toD first)), (2, SV.sh (toD shift))]) hN ?ex ?_
      case ex => exact (XV.bin o_add (XV.var 2 rfl) XV.int)
      intro overlap
      refine XB.asg 3 [0, 4, 5] (fun agree => [(3, SV.sh (toD agree)), (4, SV.sh (toD overlap)), (0, SV.sh (toD first)), (2, SV.sh (toD shift))]) hN ?ex ?_
      case ex => exact (XV.bin o_add (XV.var 3 rfl) (XV.callT b_intB (by rfl) bi.b_int (by rfl) (XV.w (XV.cmp (c_eq (α := Int) gr.r) (XV.w (XV.idx (XV.w (XV.var 4 rfl)) (XV.bin o_add (XV.var 2 rfl) (XV.var 5 rfl)))) (XV.w (XV.var 1 rfl))))))
      intro agree
      exact XB.nilT (t := (overlap, agree)) rfl (wk [1, 0, 2, 3])
    · skip
      exact XB.nilT (t := (σ1.1, σ1.2)) rfl (wk [2, 3, 4, 5])
    intro σ6
    exact XB.nilT (t := (σ6.1, σ6.2)) rfl (wk [0, 1, 2, 3])
  intro σ7
  exact XB.ret (XV.tup2 (XV.var 1 rfl) (XV.var 0 rfl))
def N.agreement (first : (List Int)) (second : (List Int)) (shift : Int) : Res (Int × Int) :=
  (N.check_rows first second) >>= fun τ1 => (N.rises_of first) >>= fun τ2 => (N.rises_of second) >>= fun τ3 => (N.agreement_of τ2 τ3 shift) >>= fun τ4 => .ok τ4
def M.agreement (first : (List Int)) (second : (List Int)) (shift : Int) : Res (Int × Int) :=
  (((.ok first) >>= fun x1 => (.ok second) >>= fun x2 => N.check_rows x1 x2) >>= fun _ => (((.ok first) >>= fun x1 => N.rises_of x1) >>= fun x1 => ((.ok second) >>= fun x1 => N.rises_of x1) >>= fun x2 => (.ok shift) >>= fun x3 => N.agreement_of x1 x2 x3))
theorem M.agreement_eq : @M.agreement = @N.agreement := by
  funext first second shift
  delta M.agreement
  delta N.agreement
  simp only [Res.bind_assoc', Res.ok_bind2, Res.bind_ok] <;> rfl
theorem sc_agreement : FnScope ["first", "second", "shift"] ["first", "second", "shift"] (defScope s_agreement) := ⟨rfl, rfl, rfl, by decide +kernel, rfl, by decide +kernel, by decide +kernel⟩
theorem ok_agreement {P : Program} {w : World} {K : PySem.W.Frag} {mg : Str → Option Value} {base : Heap} (bi : Bi P K mg) {fa : Addr} {fd : FuncData} (F : FunD K "agreement" "agreement" (defArgs s_agreement) (defBody s_agreement) (defScope s_agreement) [] [] fa fd) {f_check_rows : Addr} {fd_check_rows : FuncData} (C_check_rows : FnC K mg "check_rows" f_check_rows fd_check_rows ["first", "second"]) {f_rises_of : Addr} {fd_rises_of : FuncData} (C_rises_of : FnC K mg "rises_of" f_rises_of fd_rises_of ["row"]) {f_agreement_of : Addr} {fd_agreement_of : FuncData} (C_agreement_of : FnC K mg "agreement_of" f_agreement_of fd_agreement_of ["first", "second", "shift"]) (G_check_rows : FnV P w K mg base 5 f_check_rows fd_check_rows ["first", "second"] (Rn2 N.check_rows)) (G_rises_of : FnV P w K mg base 2 f_rises_of fd_rises_of ["row"] (Rn1 N.rises_of)) (G_agreement_of : FnV P w K mg base 2 f_agreement_of fd_agreement_of ["first", "second", "shift"] (Rn3 N.agreement_of)) :
    FnV P w K mg base 6 fa fd ["first", "second", "shift"] (Rn3 N.agreement) := by
  rw [← M.agreement_eq]
  refine fn3 F sc_agreement rfl (by decide) fun cdv A outer s H E gr first second shift => ?_
  have tk : Takes (defX P w K mg base ["first", "second", "shift"] "agreement" (defScope s_agreement) fa cdv A outer s H E) (defW E) := takes_of rfl rfl rfl rfl
  have hp : PassesOwn (model (defX P w K mg base ["first", "second", "shift"] "agreement" (defScope s_agreement) fa cdv A outer s H E).prog (defX P w K mg base ["first", "second", "shift"] "agreement" (defScope s_agreement) fa cdv A outer s H E).w) (defX P w K mg base ["first", "second", "shift"] "agreement" (defScope s_agreement) fa cdv A outer s H E).A (defX P w K mg base ["first", "second", "shift"] "agreement" (defScope s_agreement) fa cdv A outer s H E).env (defX P w K mg base ["first", "second", "shift"] "agreement" (defScope s_agreement) fa cdv A outer s H E).xe := passes_of rfl
  have hN := sc_agreement.nd
  unfold M.agreement
  refine XB.expr ?ex ?_
  case ex => exact (XV.fn2 (G_check_rows.mono (by decide)) C_check_rows gr tk (XV.var 0 rfl) (XV.var 1 rfl))
  exact XB.ret (XV.fn3 (G_agreement_of.mono (by decide)) C_agreement_of gr tk (XV.fn1 (G_rises_of.mono (by decide)) C_rises_of gr tk (XV.var 0 rfl)) (XV.fn1 (G_rises_of.mono (by decide)) C_rises_of gr tk (XV.var 1 rfl)) (XV.var 2 rfl))
def N.is_better (one : (Int × Int)) (two : (Int × Int)) : Res Bool :=
  (mulI one.1 two.2) >>= fun τ3 => (mulI two.1 one.2) >>= fun τ4 => (if (!decide (τ3 = τ4)) then ((mulI one.1 two.2) >>= fun τ7 => (mulI two.1 one.2) >>= fun τ8 => .ok (decide (τ8 < τ7))) else
  (.ok (decide (two.2 < one.2))))
def M.is_better (one : (Int × Int)) (two : (Int × Int)) : Res Bool :=
  (((((.ok one) >>= fun a => .ok a.1) >>= fun a => ((.ok two) >>= fun a => .ok a.2) >>= fun b => mulI a b) >>= fun a => (((.ok two) >>= fun a => .ok a.1) >>= fun a => ((.ok one) >>= fun a => .ok a.2) >>= fun b => mulI a b) >>= fun b => .ok (!decide (a = b))) >>= fun b => if b then ((((.ok one) >>= fun a => .ok a.1) >>= fun a => ((.ok two) >>= fun a => .ok a.2) >>= fun b => mulI a b) >>= fun a => (((.ok two) >>= fun a => .ok a.1) >>= fun a => ((.ok one) >>= fun a => .ok a.2) >>= fun b => mulI a b) >>= fun b => .ok (decide (b < a))) else (((.ok one) >>= fun a => .ok a.2) >>= fun a => ((.ok two) >>= fun a => .ok a.2) >>= fun b => .ok (decide (b < a))))
theorem M.is_better_eq : @M.is_better = @N.is_better := by
  funext one two
  delta M.is_better
  delta N.is_better
  simp only [Res.bind_assoc', Res.ok_bind2, Res.bind_ok] <;> rfl
theorem sc_is_better : FnScope ["one", "two"] ["one", "two"] (defScope s_is_better) := ⟨rfl, rfl, rfl, by decide +kernel, rfl, by decide +kernel, by decide +kernel⟩
theorem ok_is_better {P : Program} {w : World} {K : PySem.W.Frag} {mg : Str → Option Value} {base : Heap} (bi : Bi P K mg) {fa : Addr} {fd : FuncData} (F : FunD K "is_better" "is_better" (defArgs s_is_better) (defBody s_is_better) (defScope s_is_better) [] [] fa fd)   :
    FnV P w K mg base 2 fa fd ["one", "two"] (Rn2 N.is_better) := by
  rw [← M.is_better_eq]
  refine fn2 F sc_is_better rfl (by decide) fun cdv A outer s H E gr one two => ?_
  have tk : Takes (defX P w K mg base ["one", "two"] "is_better" (defScope s_is_better) fa cdv A outer s H E) (defW E) := takes_of rfl rfl rfl rfl
  have hp : PassesOwn (model (defX P w K mg base ["one", "two"] "is_better" (defScope s_is_better) fa cdv A outer s H E).prog (defX P w K mg base ["one", "two"] "is_better" (defScope s_is_better) fa cdv A outer s H E).w) (defX P w K mg base ["one", "two"] "is_better" (defScope s_is_better) fa cdv A outer s H E).A (defX P w K mg base ["one", "two"] "is_better" (defScope s_is_better) fa cdv A outer s H E).env (defX P w K mg base ["one", "two"] "is_better" (defScope s_is_better) fa cdv A outer s H E).xe := passes_of rfl
  have hN := sc_is_better.nd
  unfold M.is_better
  refine XB.ifR ?tst ?_ ?_ (by intro t h ρ2 h2; cases h2)
  case tst => exact (XT.cmp (c_ne (α := Int) gr.r) (XV.w (XV.bin o_mul (XV.item (k := 0) (fun a : (Int × Int) => a.1) (fun _ => ⟨_, rfl, rfl⟩) (XV.w (XV.var 0 rfl))) (XV.item (k := 1) (fun a : (Int × Int) => a.2) (fun _ => ⟨_, rfl, rfl⟩) (XV.w (XV.var 1 rfl))))) (XV.w (XV.bin o_mul (XV.item (k := 0) (fun a : (Int × Int) => a.1) (fun _ => ⟨_, rfl, rfl⟩) (XV.w (XV.var 1 rfl))) (XV.item (k := 1) (fun a : (Int × Int) => a.2) (fun _ => ⟨_, rfl, rfl⟩) (XV.w (XV.var 0 rfl))))))
  · skip
    exact XB.ret (XV.cmp c_gt (XV.w (XV.bin o_mul (XV.item (k := 0) (fun a : (Int × Int) => a.1) (fun _ => ⟨_, rfl, rfl⟩) (XV.w (XV.var 0 rfl))) (XV.item (k := 1) (fun a : (Int × Int) => a.2) (fun _ => ⟨_, rfl, rfl⟩) (XV.w (XV.var 1 rfl))))) (XV.w (XV.bin o_mul (XV.item (k := 0) (fun a : (Int × Int) => a.1) (fun _ => ⟨_, rfl, rfl⟩) (XV.w (XV.var 1 rfl))) (XV.item (k := 1) (fun a : (Int × Int) => a.2) (fun _ => ⟨_, rfl, rfl⟩) (XV.w (XV.var 0 rfl))))))
  · skip
    exact XB.ret (XV.cmp c_gt (XV.w (XV.item (k := 1) (fun a : (Int × Int) => a.2) (fun _ => ⟨_, rfl, rfl⟩) (XV.w (XV.var 0 rfl)))) (XV.w (XV.item (k := 1) (fun a : (Int × Int) => a.2) (fun _ => ⟨_, rfl, rfl⟩) (XV.w (XV.var 1 rfl)))))
def N.best_shift_l1 (least : Int) (α4 : (List Int)) (α5 : (List Int)) : ((Option ((Int × Int) × Int))) → Int → Res ((Option ((Int × Int) × Int))) := fun σ7 ξ8 =>
  (N.agreement_of α4 α5 ξ8) >>= fun told => (if (decide (least ≤ told.2)) then ((if (decide (σ7 = none)) then .ok true else ((unO σ7) >>= fun τ12 => (N.is_better told τ12.1) >>= fun τ13 => .ok τ13)) >>= fun τ14 => .ok τ14) else .ok false) >>= fun τ15 => (if τ15 then (let best : (Option ((Int × Int) × Int)) := (some (told, ξ8))
  .ok best) else
  (.ok σ7)) >>= fun σ16 => .ok σ16
def N.best_shift (first : (List Int)) (second : (List Int)) (least : Int) : Res (Option Int) :=
  (N.check_rows first second) >>= fun τ1 => (if (decide (least < (1 : Int))) then (.exc "OutOfRange" least) else
  ((N.rises_of first) >>= fun τ2 => (N.rises_of second) >>= fun τ3 => (let α4 : (List Int) := τ2
  (let α5 : (List Int) := τ3
  (let best : (Option ((Int × Int) × Int)) := none
  (rangeR ((1 : Int) - (lenL α5)) (lenL α4)) >>= fun τ6 => (foldR (N.best_shift_l1 least α4 α5) τ6 best) >>= fun σ17 => (if (!decide (σ17 = none)) then ((unO σ17) >>= fun τ18 => .ok (some τ18.2)) else (.ok none)) >>= fun τ19 => .ok τ19)))))
def M.best_shift (first : (List Int)) (second : (List Int)) (least : Int) : Res (Option Int) :=
  (((.ok first) >>= fun x1 => (.ok second) >>= fun x2 => N.check_rows x1 x2) >>= fun _ => (((.ok least) >>= fun a => (.ok (1 : Int)) >>= fun b => .ok (decide (a < b))) >>= fun b => if b then ((.ok least) >>= fun i => .exc "OutOfRange" i) else (((.ok first) >>= fun x1 => N.rises_of x1) >>= fun α4 => ((.ok second) >>= fun x1 => N.rises_of x1) >>= fun α5 => ((.ok (none : (Option ((Int × Int) × Int)))) >>= fun best => ((((.ok (1 : Int)) >>= fun a => ((.ok α5) >>= fun a => Res.ok (lenL a)) >>= fun b => Res.ok (a - b)) >>= fun a => ((.ok α4) >>= fun a => Res.ok (lenL a)) >>= fun b => rangeR a b) >>= fun xs => foldR (fun σ7 ξ8 => (((.ok α4) >>= fun x1 => (.ok α5) >>= fun x2 => (.ok ξ8) >>= fun x3 => N.agreement_of x1 x2 x3) >>= fun told => (((((.ok told) >>= fun a => .ok a.2) >>= fun a => (.ok least) >>= fun b => .ok (decide (b ≤ a))) >>= fun c => if c then (((.ok σ7) >>= fun a => .ok (decide (a = none))) >>= fun c => if c then .ok true else ((.ok told) >>= fun x1 => (((.ok σ7) >>= fun z => unO z) >>= fun a => .ok a.1) >>= fun x2 => N.is_better x1 x2)) else .ok false) >>= fun b => (if b then ((((.ok told) >>= fun a => (.ok ξ8) >>= fun b => Res.ok (a, b)) >>= fun z => .ok (some z)) >>= fun best => (.ok best)) else (.ok σ7)) >>= fun σ16 => (.ok σ16)))) xs best >>= fun σ17 => (((.ok σ17) >>= fun a => .ok (!decide (a = none))) >>= fun c => if c then ((((.ok σ17) >>= fun z => unO z) >>= fun a => .ok a.2) >>= fun z => .ok (some z)) else (.ok (none : (Option Int)))))))))
theorem M.best_shift_eq : @M.best_shift = @N.best_shift := by
  funext first second least
  delta M.best_shift
  delta N.best_shift
  delta N.best_shift_l1
  simp only [Res.bind_assoc', Res.ok_bind2, Res.bind_ok] <;> rfl
theorem sc_best_shift : FnScope ["first", "second", "least", "ups", "downs", "best", "shift", "told"] ["first", "second", "least"] (defScope s_best_shift) := ⟨rfl, rfl, rfl, by decide +kernel, rfl, by decide +kernel, by decide +kernel⟩
theorem ok_best_shift {P : Program} {w : World} {K : PySem.W.Frag} {mg : Str → Option Value} {base : Heap} (bi : Bi P K mg) {fa : Addr} {fd : FuncData} (F : FunD K "best_shift" "best_shift" (defArgs s_best_shift) (defBody s_best_shift) (defScope s_best_shift) [] [] fa fd) {f_check_rows : Addr} {fd_check_rows : FuncData} (C_check_rows : FnC K mg "check_rows" f_check_rows fd_check_rows ["first", "second"]) {f_rises_of : Addr} {fd_rises_of : FuncData} (C_rises_of : FnC K mg "rises_of" f_rises_of fd_rises_of ["row"]) {f_agreement_of : Addr} {fd_agreement_of : FuncData} (C_agreement_of : FnC K mg "agreement_of" f_agreement_of fd_agreement_of ["first", "second", "shift"]) {f_is_better : Addr} {fd_is_better : FuncData} (C_is_better : FnC K mg "is_better" f_is_better fd_is_better ["one", "two"]) (G_check_rows : FnV P w K mg base 5 f_check_rows fd_check_rows ["first", "second"] (Rn2 N.check_rows)) (G_rises_of : FnV P w K mg base 2 f_rises_of fd_rises_of ["row"] (Rn1 N.rises_of)) (G_agreement_of : FnV P w K mg base 2 f_agreement_of fd_agreement_of ["first", "second", "shift"] (Rn3 N.agreement_of)) (G_is_better : FnV P w K mg base 2 f_is_better fd_is_better ["one", "two"] (Rn2 N.is_better)) :
    FnV P w K mg base 6 fa fd ["first", "second", "least"] (Rn3 N.best_shift) := by
  rw [← M.best_shift_eq]
  refine fn3 F sc_best_shift rfl (by decide) fun cdv A outer s H E gr first second least => ?_
  have tk : Takes (defX P w K mg base ["first", "second", "least", "ups", "downs", "best", "shift", "told"] "best_shift" (defScope s_best_shift) fa cdv A outer s H E) (defW E) := takes_of rfl rfl rfl rfl
  have hp : PassesOwn (model (defX P w K mg base ["first", "second", "least", "ups", "downs", "best", "shift", "told"] "best_shift" (defScope s_best_shift) fa cdv A outer s H E).prog (defX P w K mg base ["first", "second", "least", "ups", "downs", "best", "shift", "told"] "best_shift" (defScope s_best_shift) fa cdv A outer s H E).w) (defX P w K mg base ["first", "second", "least", "ups", "downs", "best", "shift", "told"] "best_shift" (defScope s_best_shift) fa cdv A outer s H E).A (defX P w K mg base ["first", "second", "least", "ups", "downs", "best", "shift", "told"] "best_shift" (defScope s_best_shift) fa cdv A outer s H E).env (defX P w K mg base ["first", "second", "least", "ups", "downs", "best", "shift", "told"] "best_shift" (defScope s_best_shift) fa cdv A outer s H E).xe := passes_of rfl
  have hN := sc_best_shift.nd
  unfold M.best_shift
  refine XB.expr ?ex ?_
  case ex => exact (XV.fn2 (G_check_rows.mono (by decide)) C_check_rows gr tk (XV.var 0 rfl) (XV.var 1 rfl))
  refine XB.ifR ?tst ?_ ?_ (by intro t h ρ2 h2; cases h2)
  case tst => exact (XT.cmp c_lt (XV.w (XV.var 2 rfl)) (XV.w XV.int))
  · skip
    exact XB.raise (bi.dig "OutOfRange" (by decide)) gr rfl tk (XV.var 2 rfl)
  · skip
    refine XB.par2 3 4 [2] (fun α4 α5 => [(4, SV.sh (toD α5)), (3, SV.sh (toD α4)), (2, SV.sh (toD least))]) hN ?ex ?ey ?_
    case ex => exact (XV.fn1 (G_rises_of.mono (by decide)) C_rises_of gr tk (XV.var 0 rfl))
    case ey => exact (XV.fn1 (G_rises_of.mono (by decide)) C_rises_of gr tk (XV.var 1 rfl))
    intro α4 α5
    refine XB.asg 5 [0, 1, 2] (fun best => [(5, SV.sh (toD best)), (4, SV.sh (toD α5)), (3, SV.sh (toD α4)), (2, SV.sh (toD least))]) hN ?ex ?_
    case ex => exact XV.noneC
    intro best
    refine XB.forS (fun (σ7 : (Option ((Int × Int) × Int))) => [(5, SV.sh (toD σ7)), (4, SV.sh (toD α5)), (3, SV.sh (toD α4)), (2, SV.sh (toD least))]) (fun (σ7 : (Option ((Int × Int) × Int))) (ξ8 : Int) => [(6, SV.sh (toD ξ8)), (5, SV.sh (toD σ7)), (4, SV.sh (toD α5)), (3, SV.sh (toD α4)), (2, SV.sh (toD least))]) hp rfl (XI.range2 bi.b_range (XV.bin o_sub XV.int (XV.callB b_len (by rfl) bi.b_len (by rfl) (XV.w (XV.var 1 rfl)))) (XV.callB b_len (by rfl) bi.b_len (by rfl) (XV.w (XV.var 2 rfl)))) (fun σ7 ξ8 => (XG.name 6 [0, 1, 2, 3] hN)) ?_ (wk [0, 1, 2, 3]) ?_
    · intro σ7 ξ8
      refine XB.asg 7 [0, 1, 2, 3, 4] (fun told => [(7, SV.sh (toD told)), (6, SV.sh (toD ξ8)), (5, SV.sh (toD σ7)), (4, SV.sh (toD α5)), (3, SV.sh (toD α4)), (2, SV.sh (toD least))]) hN ?ex ?_
      case ex => exact (XV.fn3 (G_agreement_of.mono (by decide)) C_agreement_of gr tk (XV.var 3 rfl) (XV.var 2 rfl) (XV.var 0 rfl))
      intro told
      refine XB.ifN (fun (σ16 : (Option ((Int × Int) × Int))) => [(5, SV.sh (toD σ16)), (4, SV.sh (toD α5)), (3, SV.sh (toD α4)), (2, SV.sh (toD least))]) ?tst ?_ ?_ ?_
      case tst => exact (XT.pw (XT.and (XT.cmp c_ge (XV.w (XV.item (k := 1) (fun a : (Int × Int) => a.2) (fun _ => ⟨_, rfl, rfl⟩) (XV.w (XV.var 0 rfl)))) (XV.w (XV.var 5 rfl))) (XT.and1 (XT.pw (XT.or (XT.isN (XV.w (XV.var 2 rfl))) (XT.or1 (XT.val (XV.fn2 (G_is_better.mono (by decide)) C_is_better gr tk (XV.var 0 rfl) (XV.item (k := 0) (fun a : ((Int × Int) × Int) => a.1) (fun _ => ⟨_, rfl, rfl⟩) (XV.w (XV.unO (XV.var 2 rfl))))))))))))
      · skip
        refine XB.asg 5 [3, 4, 5] (fun best => [(5, SV.sh (toD best)), (4, SV.sh (toD α5)), (3, SV.sh (toD α4)), (2, SV.sh (toD least))]) hN ?ex ?_
        case ex => exact (XV.someC (XV.tup2 (XV.var 0 rfl) (XV.var 1 rfl)))
        intro best
        exact XB.nilT (t := best) rfl (wk [0, 1, 2, 3])
      · skip
        exact XB.nilT (t := σ7) rfl (wk [2, 3, 4, 5])
      intro σ16
      exact XB.nilT (t := σ16) rfl (wk [0, 1, 2, 3])
    intro σ17
    exact XB.ret (XV.ite (XT.notN (XV.w (XV.var 0 rfl))) (XV.someC (XV.item (k := 1) (fun a : ((Int × Int) × Int) => a.2) (fun _ => ⟨_, rfl, rfl⟩) (XV.w (XV.unO (XV.var 0 rfl))))) XV.noneC)
def N.check_records_l1 (woods : Int) : (Unit) → (Int × (T3 Int Int Int)) → Res (Unit) := fun σ2 ξ3 =>
  (if decide ((0 : Int) ≤ ξ3.2.a) then (.ok (decide (ξ3.2.a < woods))) else .ok false) >>= fun τ4 => (if (!τ4) then .ok true else ((if decide ((0 : Int) ≤ ξ3.2.b) then (.ok (decide (ξ3.2.b < woods))) else .ok false) >>= fun τ5 => (if (!τ5) then .ok true else ((if (decide (ξ3.2.a = ξ3.2.b)) then .ok true else (.ok (decide (1000 < (absI ξ3.2.c))))) >>= fun τ6 => .ok τ6)) >>= fun τ7 => .ok τ7)) >>= fun τ8 => (if τ8 then dropE (.exc "BadRecord" ξ3.1) else
  (.ok ()))
def N.check_records (woods : Int) (records : (List (T3 Int Int Int))) : Res Unit :=
  (if decide ((1 : Int) ≤ woods) then (.ok (decide (woods ≤ 10))) else .ok false) >>= fun τ1 => (if (!τ1) then dropE (.exc "OutOfRange" woods) else
  (if (decide (30 < (lenL records))) then dropE (.exc "TooMany" (lenL records)) else
  ((foldR (N.check_records_l1 woods) (enumL records) ()) >>= fun σ9 => .ok ())))
def M.check_records (woods : Int) (records : (List (T3 Int Int Int))) : Res Unit :=
  ((((.ok (1 : Int)) >>= fun a => (.ok woods) >>= fun b => if decide (a ≤ b) then (.ok (10 : Int)) >>= fun c => .ok (decide (b ≤ c)) else .ok false) >>= fun a => Res.ok (!a)) >>= fun b => if b then dropE ((.ok woods) >>= fun i => .exc "OutOfRange" i) else ((((.ok records) >>= fun a => Res.ok (lenL a)) >>= fun a => (.ok (30 : Int)) >>= fun b => .ok (decide (b < a))) >>= fun b => if b then dropE (((.ok records) >>= fun a => Res.ok (lenL a)) >>= fun i => .exc "TooMany" i) else (((.ok records) >>= fun a => .ok (enumL a)) >>= fun xs => foldR (fun σ2 ξ3 => (((((.ok (0 : Int)) >>= fun a => (.ok ξ3.2.a) >>= fun b => if decide (a ≤ b) then (.ok woods) >>= fun c => .ok (decide (b < c)) else .ok false) >>= fun a => Res.ok (!a)) >>= fun c => if c then .ok true else ((((.ok (0 : Int)) >>= fun a => (.ok ξ3.2.b) >>= fun b => if decide (a ≤ b) then (.ok woods) >>= fun c => .ok (decide (b < c)) else .ok false) >>= fun a => Res.ok (!a)) >>= fun c => if c then .ok true else (((.ok ξ3.2.a) >>= fun a => (.ok ξ3.2.b) >>= fun b => .ok (decide (a = b))) >>= fun c => if c then .ok true else (((.ok ξ3.2.c) >>= fun a => Res.ok (absI a)) >>= fun a => (.ok (1000 : Int)) >>= fun b => .ok (decide (b < a)))))) >>= fun b => if b then dropE ((.ok ξ3.1) >>= fun i => .exc "BadRecord" i) else (.ok ()))) xs () >>= fun σ9 => (.ok ()))))
theorem M.check_records_eq : @M.check_records = @N.check_records := by
  funext woods records
  delta M.check_records
  delta N.check_records
  delta N.check_records_l1
  simp only [Res.bind_assoc', Res.ok_bind2, Res.bind_ok] <;> rfl
theorem sc_check_records : FnScope ["woods", "records", "k", "a", "b", "shift"] ["woods", "records"] (defScope s_check_records) := ⟨rfl, rfl, rfl, by decide +kernel, rfl, by decide +kernel, by decide +kernel⟩
theorem ok_check_records {P : Program} {w : World} {K : PySem.W.Frag} {mg : Str → Option Value} {base : Heap} (bi : Bi P K mg) {fa : Addr} {fd : FuncData} (F : FunD K "check_records" "check_records" (defArgs s_check_records) (defBody s_check_records) (defScope s_check_records) [] [] fa fd)   :
    FnV P w K mg base 4 fa fd ["woods", "records"] (Rn2 N.check_records) := by
  rw [← M.check_records_eq]
  refine fn2p F sc_check_records rfl (by decide) fun cdv A outer s H E gr woods records => ?_
  have tk : Takes (defX P w K mg base ["woods", "records", "k", "a", "b", "shift"] "check_records" (defScope s_check_records) fa cdv A outer s H E) (defW E) := takes_of rfl rfl rfl rfl
  have hp : PassesOwn (model (defX P w K mg base ["woods", "records", "k", "a", "b", "shift"] "check_records" (defScope s_check_records) fa cdv A outer s H E).prog (defX P w K mg base ["woods", "records", "k", "a", "b", "shift"] "check_records" (defScope s_check_records) fa cdv A outer s H E).w) (defX P w K mg base ["woods", "records", "k", "a", "b", "shift"] "check_records" (defScope s_check_records) fa cdv A outer s H E).A (defX P w K mg base ["woods", "records", "k", "a", "b", "shift"] "check_records" (defScope s_check_records) fa cdv A outer s H E).env (defX P w K mg base ["woods", "records", "k", "a", "b", "shift"] "check_records" (defScope s_check_records) fa cdv A outer s H E).xe := passes_of rfl
  have hN := sc_check_records.nd
  unfold M.check_records
  refine XB.ifX ?tst ?_ ?_
  case tst => exact (XT.not (XT.chain c_le c_le (XV.w XV.int) (XV.w (XV.var 0 rfl)) (XV.w (XV.globI bi.c_MOST_WOODS))))
  · skip
    exact XB.raise (bi.dig "OutOfRange" (by decide)) gr rfl tk (XV.var 0 rfl)
  · skip
    refine XB.ifX ?tst ?_ ?_
    case tst => exact (XT.cmp c_gt (XV.w (XV.callB b_len (by rfl) bi.b_len (by rfl) (XV.w (XV.var 1 rfl)))) (XV.w (XV.globI bi.c_MOST_RECORDS)))
    · skip
      exact XB.raise (bi.dig "TooMany" (by decide)) gr rfl tk (XV.callB b_len (by rfl) bi.b_len (by rfl) (XV.w (XV.var 1 rfl)))
    · skip
      refine XB.forS (fun (σ2 : Unit) => [(0, SV.sh (toD woods))]) (fun (σ2 : Unit) (ξ3 : (Int × (T3 Int Int Int))) => [(5, SV.sh (toD ξ3.2.c)), (4, SV.sh (toD ξ3.2.b)), (3, SV.sh (toD ξ3.2.a)), (2, SV.sh (toD ξ3.1)), (0, SV.sh (toD woods))]) hp rfl (XI.enum bi.b_enumerate (XV.var 1 rfl)) (fun σ2 ξ3 => (XG.tup rfl (XGs.cons (ρ1 := [(2, SV.sh (toD ξ3.1)), (0, SV.sh (toD woods))]) (XG.name 2 [0] hN) (XGs.cons (ρ1 := [(5, SV.sh (toD ξ3.2.c)), (4, SV.sh (toD ξ3.2.b)), (3, SV.sh (toD ξ3.2.a)), (2, SV.sh (toD ξ3.1)), (0, SV.sh (toD woods))]) (XG.tup rfl (XGs.cons (ρ1 := [(3, SV.sh (toD ξ3.2.a)), (2, SV.sh (toD ξ3.1)), (0, SV.sh (toD woods))]) (XG.name 3 [0, 1] hN) (XGs.cons (ρ1 := [(4, SV.sh (toD ξ3.2.b)), (3, SV.sh (toD ξ3.2.a)), (2, SV.sh (toD ξ3.1)), (0, SV.sh (toD woods))]) (XG.name 4 [0, 1, 2] hN) (XGs.cons (ρ1 := [(5, SV.sh (toD ξ3.2.c)), (4, SV.sh (toD ξ3.2.b)), (3, SV.sh (toD ξ3.2.a)), (2, SV.sh (toD ξ3.1)), (0, SV.sh (toD woods))]) (XG.name 5 [0, 1, 2, 3] hN) XGs.nil)))) XGs.nil)))) ?_ (wk [0]) ?_
      · intro σ2 ξ3
        refine XB.ifX ?tst ?_ ?_
        case tst => exact (XT.pw (XT.or (XT.not (XT.chain c_le c_lt (XV.w XV.int) (XV.w (XV.var 2 rfl)) (XV.w (XV.var 4 rfl)))) (XT.or (XT.not (XT.chain c_le c_lt (XV.w XV.int) (XV.w (XV.var 1 rfl)) (XV.w (XV.var 4 rfl)))) (XT.or (XT.cmp (c_eq (α := Int) gr.r) (XV.w (XV.var 2 rfl)) (XV.w (XV.var 1 rfl))) (XT.or1 (XT.cmp c_gt (XV.w (XV.callB b_abs (by rfl) bi.b_abs (by rfl) (XV.w (XV.var 0 rfl)))) (XV.w (XV.globI bi.c_MOST_SHIFT))))))))
        · skip
          exact XB.raise (bi.dig "BadRecord" (by decide)) gr rfl tk (XV.var 3 rfl)
        · skip
          exact XB.nilT (t := ()) rfl (wk [4])
      intro σ9
      exact XB.nilT rfl (wk [])
def N.steps_of_l1 (wood : Int) : ((List (T4 Int Int Int Int))) → (Int × (T3 Int Int Int)) → Res ((List (T4 Int Int Int Int))) := fun σ1 ξ2 =>
  (if (decide (ξ2.2.a = wood)) then ((pushL σ1 (T4.mk ξ2.1 (1 : Int) ξ2.2.b ξ2.2.c)) >>= fun found => .ok found) else
  (.ok σ1)) >>= fun σ3 => (if (decide (ξ2.2.b = wood)) then ((pushL σ3 (T4.mk ξ2.1 (-(1 : Int)) ξ2.2.a (-ξ2.2.c))) >>= fun found => .ok found) else
  (.ok σ3)) >>= fun σ4 => .ok σ4
def N.steps_of (records : (List (T3 Int Int Int))) (wood : Int) : Res (List (T4 Int Int Int Int)) :=
  (let found : (List (T4 Int Int Int Int)) := ([] : (List (T4 Int Int Int Int)))
  (foldR (N.steps_of_l1 wood) (enumL records) found) >>= fun σ5 => .ok σ5)
def M.steps_of (records : (List (T3 Int Int Int))) (wood : Int) : Res (List (T4 Int Int Int Int)) :=
  ((.ok ([] : (List (T4 Int Int Int Int)))) >>= fun found => (((.ok records) >>= fun a => .ok (enumL a)) >>= fun xs => foldR (fun σ1 ξ2 => (((.ok ξ2.2.a) >>= fun a => (.ok wood) >>= fun b => .ok (decide (a = b))) >>= fun b => (if b then (((.ok ξ2.1) >>= fun a => (.ok (1 : Int)) >>= fun b => (.ok ξ2.2.b) >>= fun c => (.ok ξ2.2.c) >>= fun d => Res.ok (T4.mk a b c d)) >>= fun y => pushL σ1 y >>= fun found => (.ok found)) else (.ok σ1)) >>= fun σ3 => (((.ok ξ2.2.b) >>= fun a => (.ok wood) >>= fun b => .ok (decide (a = b))) >>= fun b => (if b then (((.ok ξ2.1) >>= fun a => ((.ok (1 : Int)) >>= fun a => Res.ok (-a)) >>= fun b => (.ok ξ2.2.a) >>= fun c => ((.ok ξ2.2.c) >>= fun a => Res.ok (-a)) >>= fun d => Res.ok (T4.mk a b c d)) >>= fun y => pushL σ3 y >>= fun found => (.ok found)) else (.ok σ3)) >>= fun σ4 => (.ok σ4)))) xs found >>= fun σ5 => (.ok σ5)))
theorem M.steps_of_eq : @M.steps_of = @N.steps_of := by
  funext records wood
  delta M.steps_of
  delta N.steps_of
  delta N.steps_of_l1
  simp only [Res.bind_assoc', Res.ok_bind2, Res.bind_ok] <;> rfl
theorem sc_steps_of : FnScope ["records", "wood", "found", "k", "a", "b", "shift"] ["records", "wood"] (defScope s_steps_of) := ⟨rfl, rfl, rfl, by decide +kernel, rfl, by decide +kernel, by decide +kernel⟩
theorem ok_steps_of {P : Program} {w : World} {K : PySem.W.Frag} {mg : Str → Option Value} {base : Heap} (bi : Bi P K mg) {fa : Addr} {fd : FuncData} (F : FunD K "steps_of" "steps_of" (defArgs s_steps_of) (defBody s_steps_of) (defScope s_steps_of) [] [] fa fd)   :
    FnV P w K mg base 2 fa fd ["records", "wood"] (Rn2 N.steps_of) := by
  rw [← M.steps_of_eq]
  refine fn2 F sc_steps_of rfl (by decide) fun cdv A outer s H E gr records wood => ?_
  have tk : Takes (defX P w K mg base ["records", "wood", "found", "k", "a", "b", "shift"] "steps_of" (defScope s_steps_of) fa cdv A outer s H E) (defW E) := takes_of rfl rfl rfl rfl
  have hp : PassesOwn (model (defX P w K mg base ["records", "wood", "found", "k", "a", "b", "shift"] "steps_of" (defScope s_steps_of) fa cdv A outer s H E).prog (defX P w K mg base ["records", "wood", "found", "k", "a", "b", "shift"] "steps_of" (defScope s_steps_of) fa cdv A outer s H E).w) (defX P w K mg base ["records", "wood", "found", "k", "a", "b", "shift"] "steps_of" (defScope s_steps_of) fa cdv A outer s H E).A (defX P w K mg base ["records", "wood", "found", "k", "a", "b", "shift"] "steps_of" (defScope s_steps_of) fa cdv A outer s H E).env (defX P w K mg base ["records", "wood", "found", "k", "a", "b", "shift"] "steps_of" (defScope s_steps_of) fa cdv A outer s H E).xe := passes_of rfl
  have hN := sc_steps_of.nd
  unfold M.steps_of
  refine XB.asgO 2 [0, 1] (fun found => [(2, SV.ow (toD found)), (0, SV.sh (toD records)), (1, SV.sh (toD wood))]) hN ?ex ?_
  case ex => exact XF.lst0
  intro found
  refine XB.forS (fun (σ1 : (List (T4 Int Int Int Int))) => [(2, SV.ow (toD σ1)), (1, SV.sh (toD wood))]) (fun (σ1 : (List (T4 Int Int Int Int))) (ξ2 : (Int × (T3 Int Int Int))) => [(6, SV.sh (toD ξ2.2.c)), (5, SV.sh (toD ξ2.2.b)), (4, SV.sh (toD ξ2.2.a)), (3, SV.sh (toD ξ2.1)), (2, SV.ow (toD σ1)), (1, SV.sh (toD wood))]) hp rfl (XI.enum bi.b_enumerate (XV.var 1 rfl)) (fun σ1 ξ2 => (XG.tup rfl (XGs.cons (ρ1 := [(3, SV.sh (toD ξ2.1)), (2, SV.ow (toD σ1)), (1, SV.sh (toD wood))]) (XG.name 3 [0, 1] hN) (XGs.cons (ρ1 := [(6, SV.sh (toD ξ2.2.c)), (5, SV.sh (toD ξ2.2.b)), (4, SV.sh (toD ξ2.2.a)), (3, SV.sh (toD ξ2.1)), (2, SV.ow (toD σ1)), (1, SV.sh (toD wood))]) (XG.tup rfl (XGs.cons (ρ1 := [(4, SV.sh (toD ξ2.2.a)), (3, SV.sh (toD ξ2.1)), (2, SV.ow (toD σ1)), (1, SV.sh (toD wood))]) (XG.name 4 [0, 1, 2] hN) (XGs.cons (ρ1 := [(5, SV.sh (toD ξ2.2.b)), (4, SV.sh (toD ξ2.2.a)), (3, SV.sh (toD ξ2.1)), (2, SV.ow (toD σ1)), (1, SV.sh (toD wood))]) (XG.name 5 [0, 1, 2, 3] hN) (XGs.cons (ρ1 := [(6, SV.sh (toD ξ2.2.c)), (5, SV.sh (toD ξ2.2.b)), (4, SV.sh (toD ξ2.2.a)), (3, SV.sh (toD ξ2.1)), (2, SV.ow (toD σ1)), (1, SV.sh (toD wood))]) (XG.name 6 [0, 1, 2, 3, 4] hN) XGs.nil)))) XGs.nil)))) ?_ (wk [0, 2]) ?_
  · intro σ1 ξ2
    refine XB.ifN (fun (σ3 : (List (T4 Int Int Int Int))) => [(2, SV.ow (toD σ3)), (6, SV.sh (toD ξ2.2.c)), (5, SV.sh (toD ξ2.2.b)), (4, SV.sh (toD ξ2.2.a)), (3, SV.sh (toD ξ2.1)), (1, SV.sh (toD wood))]) ?tst ?_ ?_ ?_
    case tst => exact (XT.cmp (c_eq (α := Int) gr.r) (XV.w (XV.var 2 rfl)) (XV.w (XV.var 5 rfl)))
    · skip
      refine XB.append 4 2 [0, 1, 2, 3, 5] (fun found => [(2, SV.ow (toD found)), (6, SV.sh (toD ξ2.2.c)), (5, SV.sh (toD ξ2.2.b)), (4, SV.sh (toD ξ2.2.a)), (3, SV.sh (toD ξ2.1)), (1, SV.sh (toD wood))]) rfl ?ex ?_
      case ex => exact (XV.tup4 (XV.var 3 rfl) XV.int (XV.var 1 rfl) (XV.var 0 rfl))
      intro found
      exact XB.nilT (t := found) rfl (wk [0, 1, 2, 3, 4, 5])
    · skip
      exact XB.nilT (t := σ1) rfl (wk [4, 0, 1, 2, 3, 5])
    intro σ3
    refine XB.ifN (fun (σ4 : (List (T4 Int Int Int Int))) => [(2, SV.ow (toD σ4)), (1, SV.sh (toD wood))]) ?tst ?_ ?_ ?_
    case tst => exact (XT.cmp (c_eq (α := Int) gr.r) (XV.w (XV.var 2 rfl)) (XV.w (XV.var 5 rfl)))
    · skip
      refine XB.append 0 2 [5] (fun found => [(2, SV.ow (toD found)), (1, SV.sh (toD wood))]) rfl ?ex ?_
      case ex => exact (XV.tup4 (XV.var 4 rfl) (XV.neg XV.int) (XV.var 3 rfl) (XV.neg (XV.var 1 rfl)))
      intro found
      exact XB.nilT (t := found) rfl (wk [0, 1])
    · skip
      exact XB.nilT (t := σ3) rfl (wk [0, 5])
    intro σ4
    exact XB.nilT (t := σ4) rfl (wk [0, 1])
  intro σ5
  refine XB.freeze (x := σ5) 0 2 [1] [(2, SV.sh (toD σ5)), (1, SV.sh (toD wood))] rfl ?_
  exact XB.ret (XV.var 0 rfl)
def N.told_years_l1 (π10 : Int × (List Int)) : ((List (Option Int)) × (List (List (Int × Int))) × (List Int)) → (T4 Int Int Int Int) → Res ((List (Option Int)) × (List (List (Int × Int))) × (List Int)) := fun σ12 ξ13 =>
  (getL σ12.1 ξ13.c) >>= fun τ14 => (if (decide (τ14 = none)) then ((getL σ12.1 π10.1) >>= fun τ16 => (unO τ16) >>= fun τ17 => (setL σ12.1 ξ13.c (some (τ17 + ξ13.d))) >>= fun found => (getL σ12.2.1 π10.1) >>= fun τ18 => (pushL τ18 (ξ13.a, ξ13.b)) >>= fun τ19 => (setL σ12.2.1 ξ13.c τ19) >>= fun ways => (pushL σ12.2.2 ξ13.c) >>= fun waiting => .ok (found, ways, waiting)) else
  (.ok (σ12.1, σ12.2.1, σ12.2.2))) >>= fun σ20 => .ok (σ20.1, σ20.2.1, σ20.2.2)
def N.told_years_c2  : ((List Int) × (List (Option Int)) × (List (List (Int × Int)))) → Res Bool := fun σ9 =>
  .ok (decide ((0 : Int) < (lenL σ9.1)))
def N.told_years_l2 (records : (List (T3 Int Int Int))) : ((List Int) × (List (Option Int)) × (List (List (Int × Int)))) → Res ((List Int) × (List (Option Int)) × (List (List (Int × Int)))) := fun σ9 =>
  (popL σ9.1 (0 : Int)) >>= fun π10 => (N.steps_of records π10.1) >>= fun τ11 => (foldR (N.told_years_l1 π10) τ11 (σ9.2.1, σ9.2.2, π10.2)) >>= fun σ21 => .ok (σ21.2.2, σ21.1, σ21.2.1)
def N.told_years_l3 (records : (List (T3 Int Int Int))) : ((List (Option Int)) × (List (List (Int × Int)))) → Int → Res ((List (Option Int)) × (List (List (Int × Int)))) := fun σ6 ξ7 =>
  (getL σ6.1 ξ7) >>= fun τ8 => (if (decide (τ8 = none)) then ((setL σ6.1 ξ7 (some (0 : Int))) >>= fun found => (let waiting : (List Int) := [ξ7]
  (whileR (N.told_years_c2) (N.told_years_l2 records) (waiting, found, σ6.2)) >>= fun σ22 => .ok (σ22.2.1, σ22.2.2))) else
  (.ok (σ6.1, σ6.2))) >>= fun σ23 => .ok (σ23.1, σ23.2)
def N.told_years (woods : Int) (records : (List (T3 Int Int Int))) : Res ((List Int) × (List (List (Int × Int)))) :=
  (repL [none] woods) >>= fun found => (rangeR 0 woods) >>= fun τ2 => (lcR (fun ξ3 => .ok true) (fun ξ3 => .ok ([] : (List (Int × Int)))) τ2) >>= fun ways => (rangeR 0 woods) >>= fun τ5 => (foldR (N.told_years_l3 records) τ5 (found, ways)) >>= fun σ24 => (unOs σ24.1) >>= fun τ26 => .ok (τ26, σ24.2)
def M.told_years (woods : Int) (records : (List (T3 Int Int Int))) : Res ((List Int) × (List (List (Int × Int)))) :=
  ((((.ok (none : (Option Int))) >>= fun a => Res.ok [a]) >>= fun a => (.ok woods) >>= fun b => repL a b) >>= fun found => (((.ok woods) >>= fun n => rangeR 0 n) >>= fun xs => lcR (fun ξ3 => (.ok true)) (fun ξ3 => (.ok ([] : (List (Int × Int))))) xs >>= fun ways => (((.ok woods) >>= fun n => rangeR 0 n) >>= fun xs => foldR (fun σ6 ξ7 => ((((.ok σ6.1) >>= fun a => (.ok ξ7) >>= fun b => getL a b) >>= fun a => .ok (decide (a = none))) >>= fun b => (if b then (((.ok (0 : Int)) >>= fun z => .ok (some z)) >>= fun y => (.ok ξ7) >>= fun j => setL σ6.1 j y >>= fun found => (((.ok ξ7) >>= fun a => Res.ok [a]) >>= fun waiting => (whileR (fun σ9 => (((.ok σ9.1) >>= fun a => Res.ok (lenL a)) >>= fun a => (.ok (0 : Int)) >>= fun b => .ok (decide (b < a)))) (fun σ9 => ((.ok (0 : Int)) >>= fun y => popL σ9.1 y >>= fun π10 => (((.ok records) >>= fun x1 => (.ok π10.1) >>= fun x2 => N.steps_of x1 x2) >>= fun xs => foldR (fun σ12 ξ13 => ((((.ok σ12.1) >>= fun a => (.ok ξ13.c) >>= fun b => getL a b) >>= fun a => .ok (decide (a = none))) >>= fun b => (if b then ((((((.ok σ12.1) >>= fun a => (.ok π10.1) >>= fun b => getL a b) >>= fun z => unO z) >>= fun a => (.ok ξ13.d) >>= fun b => Res.ok (a + b)) >>= fun z => .ok (some z)) >>= fun y => (.ok ξ13.c) >>= fun j => setL σ12.1 j y >>= fun found => ((((.ok σ12.2.1) >>= fun a => (.ok π10.1) >>= fun b => getL a b) >>= fun a => ((.ok ξ13.a) >>= fun a => (.ok ξ13.b) >>= fun b => Res.ok (a, b)) >>= fun b => pushL a b) >>= fun y => (.ok ξ13.c) >>= fun j => setL σ12.2.1 j y >>= fun ways => ((.ok ξ13.c) >>= fun y => pushL σ12.2.2 y >>= fun waiting => (.ok (found, ways, waiting))))) else (.ok (σ12.1, σ12.2.1, σ12.2.2))) >>= fun σ20 => (.ok (σ20.1, σ20.2.1, σ20.2.2)))) xs (σ9.2.1, σ9.2.2, π10.2) >>= fun σ21 => (.ok (σ21.2.2, σ21.1, σ21.2.1))))) (waiting, found, σ6.2) >>= fun σ22 => (.ok (σ22.2.1, σ22.2.2))))) else (.ok (σ6.1, σ6.2))) >>= fun σ23 => (.ok (σ23.1, σ23.2)))) xs (found, ways) >>= fun σ24 => (((.ok σ24.1) >>= unOs) >>= fun a => (.ok σ24.2) >>= fun b => Res.ok (a, b)))))
theorem M.told_years_eq : @M.told_years = @N.told_years := by
  funext woods records
  delta M.told_years
  delta N.told_years
  delta N.told_years_l3
  delta N.told_years_l2
  delta N.told_years_c2
  delta N.told_years_l1
  simp only [Res.bind_assoc', Res.ok_bind2, Res.bind_ok] <;> rfl
theorem sc_told_years : FnScope ["woods", "records", "found", "ways", "_", "first", "waiting", "wood", "k", "sign", "there", "shift"] ["woods", "records"] (defScope s_told_years) := ⟨rfl, rfl, rfl, by decide +kernel, rfl, by decide +kernel, by decide +kernel⟩
theorem ok_told_years {P : Program} {w : World} {K : PySem.W.Frag} {mg : Str → Option Value} {base : Heap} (bi : Bi P K mg) {fa : Addr} {fd : FuncData} (F : FunD K "told_years" "told_years" (defArgs s_told_years) (defBody s_told_years) (defScope s_told_years) [] [] fa fd) {f_steps_of : Addr} {fd_steps_of : FuncData} (C_steps_of : FnC K mg "steps_of" f_steps_of fd_steps_of ["records", "wood"]) (G_steps_of : FnV P w K mg base 2 f_steps_of fd_steps_of ["records", "wood"] (Rn2 N.steps_of)) :
    FnV P w K mg base 3 fa fd ["woods", "records"] (Rn2 N.told_years) := by
  rw [← M.told_years_eq]
  refine fn2 F sc_told_years rfl (by decide) fun cdv A outer s H E gr woods records => ?_
  have tk : Takes (defX P w K mg base ["woods", "records", "found", "ways", "_", "first", "waiting", "wood", "k", "sign", "there", "shift"] "told_years" (defScope s_told_years) fa cdv A outer s H E) (defW E) := takes_of rfl rfl rfl rfl
  have hp : PassesOwn (model (defX P w K mg base ["woods", "records", "found", "ways", "_", "first", "waiting", "wood", "k", "sign", "there", "shift"] "told_years" (defScope s_told_years) fa cdv A outer s H E).prog (defX P w K mg base ["woods", "records", "found", "ways", "_", "first", "waiting", "wood", "k", "sign", "there", "shift"] "told_years" (defScope s_told_years) fa cdv A outer s H E).w) (defX P w K mg base ["woods", "records", "found", "ways", "_", "first", "waiting", "wood", "k", "sign", "there", "shift"] "told_years" (defScope s_told_years) fa cdv A outer s H E).A (defX P w K mg base ["woods", "records", "found", "ways", "_", "first", "waiting", "wood", "k", "sign", "there", "shift"] "told_years" (defScope s_told_years) fa cdv A outer s H E).env (defX P w K mg base ["woods", "records", "found", "ways", "_", "first", "waiting", "wood", "k", "sign", "there", "shift"] "told_years" (defScope s_told_years) fa cdv A outer s H E).xe := passes_of rfl
  have hN := sc_told_years.nd
  unfold M.told_years
  refine XB.asgO 2 [0, 1] (fun found => [(2, SV.ow (toD found)), (0, SV.sh (toD woods)), (1, SV.sh (toD records))]) hN ?ex ?_
  case ex => exact (XF.rep (XF.w (XF.lst1 XV.noneC)) (XV.var 0 rfl))
  intro found
  refine XB.asgLc (is := [4]) 3 [("_", 4)] [0, 1, 2] [0, 1, 2] [(2, SV.ow (toD found)), (0, SV.sh (toD woods)), (1, SV.sh (toD records))] (fun ξ3 => [(4, SV.sh (toD ξ3)), (2, SV.ow (toD found)), (0, SV.sh (toD woods)), (1, SV.sh (toD records))]) (fun ways => [(3, SV.ow (toD ways)), (2, SV.ow (toD found)), (0, SV.sh (toD woods)), (1, SV.sh (toD records))]) rfl hN ?hi (by rfl) ?hg ?ht ?he ?_ (by rfl)
  case hi => exact (XI.range1 bi.b_range (XV.var 1 rfl))
  case hg => exact (fun ξ3 _ _ _ _ _ => (XG.name 4 [0, 1, 2] hN))
  case ht => exact (fun ξ3 _ _ _ _ _ => XTs.nil)
  case he => exact (fun ξ3 _ _ _ _ _ => (XF.v XF.lst0))
  intro ways
  refine XB.forS (fun (σ6 : (List (Option Int)) × (List (List (Int × Int)))) => [(2, SV.ow (toD σ6.1)), (3, SV.ow (toD σ6.2)), (1, SV.sh (toD records))]) (fun (σ6 : (List (Option Int)) × (List (List (Int × Int)))) (ξ7 : Int) => [(5, SV.sh (toD ξ7)), (2, SV.ow (toD σ6.1)), (3, SV.ow (toD σ6.2)), (1, SV.sh (toD records))]) hp rfl (XI.range1 bi.b_range (XV.var 2 rfl)) (fun σ6 ξ7 => (XG.name 5 [0, 1, 2] hN)) ?_ (wk [1, 0, 3]) ?_
  · intro σ6 ξ7
    refine XB.ifN (fun (σ23 : (List (Option Int)) × (List (List (Int × Int)))) => [(2, SV.ow (toD σ23.1)), (3, SV.ow (toD σ23.2)), (1, SV.sh (toD records))]) ?tst ?_ ?_ ?_
    case tst => exact (XT.isN (XV.w (XV.idx (XW.own 1 rfl) (XV.var 0 rfl))))
    · skip
      refine XB.setIdx 1 2 [0, 2, 3] (fun found => [(2, SV.ow (toD found)), (5, SV.sh (toD ξ7)), (3, SV.ow (toD σ6.2)), (1, SV.sh (toD records))]) rfl ?ex ?ei ?_
      case ex => exact (XV.someC XV.int)
      case ei => exact (XV.var 0 rfl)
      intro found
      refine XB.asgO 6 [0, 2, 3] (fun waiting => [(6, SV.ow (toD waiting)), (2, SV.ow (toD found)), (3, SV.ow (toD σ6.2)), (1, SV.sh (toD records))]) hN ?ex ?_
      case ex => exact (XF.lst1 (XV.var 1 rfl))
      intro waiting
      refine XB.whileS (fun (σ9 : (List Int) × (List (Option Int)) × (List (List (Int × Int)))) => [(6, SV.ow (toD σ9.1)), (2, SV.ow (toD σ9.2.1)), (3, SV.ow (toD σ9.2.2)), (1, SV.sh (toD records))]) hp (fun σ9 => (XT.cmp c_gt (XV.w (XV.callB b_len (by rfl) bi.b_len (by rfl) (XW.own 0 rfl))) (XV.w XV.int))) ?_ (wk [0, 1, 2, 3]) ?_
      · intro σ9
        refine XB.popA 0 6 7 [1, 2, 3] (fun π10 => [(7, SV.sh (toD π10.1)), (6, SV.ow (toD π10.2)), (2, SV.ow (toD σ9.2.1)), (3, SV.ow (toD σ9.2.2)), (1, SV.sh (toD records))]) hN rfl ?ex ?_
        case ex => exact XV.int
        intro π10
        refine XB.forS (fun (σ12 : (List (Option Int)) × (List (List (Int × Int))) × (List Int)) => [(2, SV.ow (toD σ12.1)), (3, SV.ow (toD σ12.2.1)), (6, SV.ow (toD σ12.2.2)), (7, SV.sh (toD π10.1)), (1, SV.sh (toD records))]) (fun (σ12 : (List (Option Int)) × (List (List (Int × Int))) × (List Int)) (ξ13 : (T4 Int Int Int Int)) => [(11, SV.sh (toD ξ13.d)), (10, SV.sh (toD ξ13.c)), (9, SV.sh (toD ξ13.b)), (8, SV.sh (toD ξ13.a)), (2, SV.ow (toD σ12.1)), (3, SV.ow (toD σ12.2.1)), (6, SV.ow (toD σ12.2.2)), (7, SV.sh (toD π10.1)), (1, SV.sh (toD records))]) hp rfl (XI.list (XV.fn2 (G_steps_of.mono (by decide)) C_steps_of gr tk (XV.var 4 rfl) (XV.var 0 rfl))) (fun σ12 ξ13 => (XG.tup rfl (XGs.cons (ρ1 := [(8, SV.sh (toD ξ13.a)), (2, SV.ow (toD σ12.1)), (3, SV.ow (toD σ12.2.1)), (6, SV.ow (toD σ12.2.2)), (7, SV.sh (toD π10.1)), (1, SV.sh (toD records))]) (XG.name 8 [0, 1, 2, 3, 4] hN) (XGs.cons (ρ1 := [(9, SV.sh (toD ξ13.b)), (8, SV.sh (toD ξ13.a)), (2, SV.ow (toD σ12.1)), (3, SV.ow (toD σ12.2.1)), (6, SV.ow (toD σ12.2.2)), (7, SV.sh (toD π10.1)), (1, SV.sh (toD records))]) (XG.name 9 [0, 1, 2, 3, 4, 5] hN) (XGs.cons (ρ1 := [(10, SV.sh (toD ξ13.c)), (9, SV.sh (toD ξ13.b)), (8, SV.sh (toD ξ13.a)), (2, SV.ow (toD σ12.1)), (3, SV.ow (toD σ12.2.1)), (6, SV.ow (toD σ12.2.2)), (7, SV.sh (toD π10.1)), (1, SV.sh (toD records))]) (XG.name 10 [0, 1, 2, 3, 4, 5, 6] hN) (XGs.cons (ρ1 := [(11, SV.sh (toD ξ13.d)), (10, SV.sh (toD ξ13.c)), (9, SV.sh (toD ξ13.b)), (8, SV.sh (toD ξ13.a)), (2, SV.ow (toD σ12.1)), (3, SV.ow (toD σ12.2.1)), (6, SV.ow (toD σ12.2.2)), (7, SV.sh (toD π10.1)), (1, SV.sh (toD records))]) (XG.name 11 [0, 1, 2, 3, 4, 5, 6, 7] hN) XGs.nil)))))) ?_ (wk [2, 3, 1, 0, 4]) ?_
        · intro σ12 ξ13
          refine XB.ifN (fun (σ20 : (List (Option Int)) × (List (List (Int × Int))) × (List Int)) => [(2, SV.ow (toD σ20.1)), (3, SV.ow (toD σ20.2.1)), (6, SV.ow (toD σ20.2.2)), (7, SV.sh (toD π10.1)), (1, SV.sh (toD records))]) ?tst ?_ ?_ ?_
          case tst => exact (XT.isN (XV.w (XV.idx (XW.own 4 rfl) (XV.var 1 rfl))))
          · skip
            refine XB.setIdx 4 2 [1, 2, 3, 5, 6, 7, 8] (fun found => [(2, SV.ow (toD found)), (10, SV.sh (toD ξ13.c)), (9, SV.sh (toD ξ13.b)), (8, SV.sh (toD ξ13.a)), (3, SV.ow (toD σ12.2.1)), (6, SV.ow (toD σ12.2.2)), (7, SV.sh (toD π10.1)), (1, SV.sh (toD records))]) rfl ?ex ?ei ?_
            case ex => exact (XV.someC (XV.bin o_add (XV.unO (XV.idx (XW.own 4 rfl) (XV.var 7 rfl))) (XV.var 0 rfl)))
            case ei => exact (XV.var 1 rfl)
            intro found
            refine XB.setIdx 4 3 [0, 1, 5, 6, 7] (fun ways => [(3, SV.ow (toD ways)), (2, SV.ow (toD found)), (10, SV.sh (toD ξ13.c)), (6, SV.ow (toD σ12.2.2)), (7, SV.sh (toD π10.1)), (1, SV.sh (toD records))]) rfl ?ex ?ei ?_
            case ex => exact (XF.v (XF.lstS (XV.w (XV.idx (XW.own 4 rfl) (XV.var 6 rfl))) (XV.tup2 (XV.var 3 rfl) (XV.var 2 rfl))))
            case ei => exact (XV.var 1 rfl)
            intro ways
            refine XB.append 3 6 [0, 1, 4, 5] (fun waiting => [(6, SV.ow (toD waiting)), (3, SV.ow (toD ways)), (2, SV.ow (toD found)), (7, SV.sh (toD π10.1)), (1, SV.sh (toD records))]) rfl ?ex ?_
            case ex => exact (XV.var 2 rfl)
            intro waiting
            exact XB.nilT (t := (found, ways, waiting)) rfl (wk [2, 1, 0, 3, 4])
          · skip
            exact XB.nilT (t := (σ12.1, σ12.2.1, σ12.2.2)) rfl (wk [4, 5, 6, 7, 8])
          intro σ20
          exact XB.nilT (t := (σ20.1, σ20.2.1, σ20.2.2)) rfl (wk [0, 1, 2, 3, 4])
        intro σ21
        exact XB.nilT (t := (σ21.2.2, σ21.1, σ21.2.1)) rfl (wk [2, 0, 1, 4])
      intro σ22
      exact XB.nilT (t := (σ22.2.1, σ22.2.2)) rfl (wk [1, 2, 3])
    · skip
      exact XB.nilT (t := (σ6.1, σ6.2)) rfl (wk [1, 2, 3])
    intro σ23
    exact XB.nilT (t := (σ23.1, σ23.2)) rfl (wk [0, 1, 2])
  intro σ24
  refine XB.freeze (x := σ24.1) 0 2 [1, 2] [(2, SV.sh (toD σ24.1)), (3, SV.ow (toD σ24.2)), (1, SV.sh (toD records))] rfl ?_
  refine XB.freeze (x := σ24.2) 1 3 [0, 2] [(3, SV.sh (toD σ24.2)), (2, SV.sh (toD σ24.1)), (1, SV.sh (toD records))] rfl ?_
  exact XB.ret (XV.tup2 (XV.unOs (XV.var 1 rfl)) (XV.var 0 rfl))
def N.unlike_record_l1 (told : (List Int)) : (Unit) → (Int × (T3 Int Int Int)) → Res (Ctl (Option Int) (Unit)) := fun σ1 ξ2 =>
  (getL told ξ2.2.b) >>= fun τ5 => (getL told ξ2.2.a) >>= fun τ6 => (if (!decide ((τ5 - τ6) = ξ2.2.c)) then (.ok (some ξ2.1)) >>= fun o => .ok (Ctl.ex o) else
  (.ok (Ctl.nx ())))
def N.unlike_record (records : (List (T3 Int Int Int))) (told : (List Int)) : Res (Option Int) :=
  (foldC (N.unlike_record_l1 told) (enumL records) ()) >>= fun κ8 => thenC (fun o => .ok o) (fun σ7 => .ok none) κ8
def M.unlike_record (records : (List (T3 Int Int Int))) (told : (List Int)) : Res (Option Int) :=
  (((.ok records) >>= fun a => .ok (enumL a)) >>= fun xs => foldC (fun σ1 ξ2 => (((((.ok told) >>= fun a => (.ok ξ2.2.b) >>= fun b => getL a b) >>= fun a => ((.ok told) >>= fun a => (.ok ξ2.2.a) >>= fun b => getL a b) >>= fun b => Res.ok (a - b)) >>= fun a => (.ok ξ2.2.c) >>= fun b => .ok (!decide (a = b))) >>= fun b => if b then ((.ok ξ2.1) >>= fun z => .ok (some z)) >>= fun o => .ok (Ctl.ex o) else (.ok (Ctl.nx ())))) xs () >>= fun t => thenC (fun o => .ok o) (fun σ7 => (.ok (none : (Option Int)))) t)
theorem M.unlike_record_eq : @M.unlike_record = @N.unlike_record := by
  funext records told
  delta M.unlike_record
  delta N.unlike_record
  delta N.unlike_record_l1
  simp only [Res.bind_assoc', Res.ok_bind2, Res.bind_ok] <;> rfl
theorem sc_unlike_record : FnScope ["records", "told", "k", "a", "b", "shift"] ["records", "told"] (defScope s_unlike_record) := ⟨rfl, rfl, rfl, by decide +kernel, rfl, by decide +kernel, by decide +kernel⟩
theorem ok_unlike_record {P : Program} {w : World} {K : PySem.W.Frag} {mg : Str → Option Value} {base : Heap} (bi : Bi P K mg) {fa : Addr} {fd : FuncData} (F : FunD K "unlike_record" "unlike_record" (defArgs s_unlike_record) (defBody s_unlike_record) (defScope s_unlike_record) [] [] fa fd)   :
    FnV P w K mg base 2 fa fd ["records", "told"] (Rn2 N.unlike_record) := by
  rw [← M.unlike_record_eq]
  refine fn2 F sc_unlike_record rfl (by decide) fun cdv A outer s H E gr records told => ?_
  have tk : Takes (defX P w K mg base ["records", "told", "k", "a", "b", "shift"] "unlike_record" (defScope s_unlike_record) fa cdv A outer s H E) (defW E) := takes_of rfl rfl rfl rfl
  have hp : PassesOwn (model (defX P w K mg base ["records", "told", "k", "a", "b", "shift"] "unlike_record" (defScope s_unlike_record) fa cdv A outer s H E).prog (defX P w K mg base ["records", "told", "k", "a", "b", "shift"] "unlike_record" (defScope s_unlike_record) fa cdv A outer s H E).w) (defX P w K mg base ["records", "told", "k", "a", "b", "shift"] "unlike_record" (defScope s_unlike_record) fa cdv A outer s H E).A (defX P w K mg base ["records", "told", "k", "a", "b", "shift"] "unlike_record" (defScope s_unlike_record) fa cdv A outer s H E).env (defX P w K mg base ["records", "told", "k", "a", "b", "shift"] "unlike_record" (defScope s_unlike_record) fa cdv A outer s H E).xe := passes_of rfl
  have hN := sc_unlike_record.nd
  unfold M.unlike_record
  refine XB.forC (ω := fun o => .rt (toD (o : (Option Int)))) (fun o => o) (fun (σ1 : Unit) => [(1, SV.sh (toD told))]) (fun (σ1 : Unit) (ξ2 : (Int × (T3 Int Int Int))) => [(5, SV.sh (toD ξ2.2.c)), (4, SV.sh (toD ξ2.2.b)), (3, SV.sh (toD ξ2.2.a)), (2, SV.sh (toD ξ2.1)), (1, SV.sh (toD told))]) hp rfl (fun _ => rfl) (fun _ _ h => by cases h) (fun _ _ h => by cases h) (XI.enum bi.b_enumerate (XV.var 0 rfl)) (fun σ1 ξ2 => (XG.tup rfl (XGs.cons (ρ1 := [(2, SV.sh (toD ξ2.1)), (1, SV.sh (toD told))]) (XG.name 2 [0] hN) (XGs.cons (ρ1 := [(5, SV.sh (toD ξ2.2.c)), (4, SV.sh (toD ξ2.2.b)), (3, SV.sh (toD ξ2.2.a)), (2, SV.sh (toD ξ2.1)), (1, SV.sh (toD told))]) (XG.tup rfl (XGs.cons (ρ1 := [(3, SV.sh (toD ξ2.2.a)), (2, SV.sh (toD ξ2.1)), (1, SV.sh (toD told))]) (XG.name 3 [0, 1] hN) (XGs.cons (ρ1 := [(4, SV.sh (toD ξ2.2.b)), (3, SV.sh (toD ξ2.2.a)), (2, SV.sh (toD ξ2.1)), (1, SV.sh (toD told))]) (XG.name 4 [0, 1, 2] hN) (XGs.cons (ρ1 := [(5, SV.sh (toD ξ2.2.c)), (4, SV.sh (toD ξ2.2.b)), (3, SV.sh (toD ξ2.2.a)), (2, SV.sh (toD ξ2.1)), (1, SV.sh (toD told))]) (XG.name 5 [0, 1, 2, 3] hN) XGs.nil)))) XGs.nil)))) ?_ (wk [1]) ?_
  · intro σ1 ξ2
    refine XB.ifE (ω := fun o => .rt (toD o)) (fun o => Ctl.ex o) (fun _ => rfl) (fun _ _ h => by cases h) ?tst ?_ ?_
    case tst => exact (XT.cmp (c_ne (α := Int) gr.r) (XV.w (XV.bin o_sub (XV.idx (XV.w (XV.var 4 rfl)) (XV.var 1 rfl)) (XV.idx (XV.w (XV.var 4 rfl)) (XV.var 2 rfl)))) (XV.w (XV.var 0 rfl)))
    · skip
      exact XB.ret (XV.someC (XV.var 3 rfl))
    · skip
      exact XB.nilT (t := Ctl.nx ()) rfl (wk [4])
  intro σ7
  exact XB.ret XV.noneC
def N.years (woods : Int) (records : (List (T3 Int Int Int))) : Res (Option (List Int)) :=
  (N.check_records woods records) >>= fun τ1 => (N.told_years woods records) >>= fun τ2 => (let told : (List Int) := τ2.1
  (N.unlike_record records told) >>= fun τ3 => (if (decide (τ3 = none)) then (.ok (some told)) else (.ok none)) >>= fun τ4 => .ok τ4)
def M.years (woods : Int) (records : (List (T3 Int Int Int))) : Res (Option (List Int)) :=
  (((.ok woods) >>= fun x1 => (.ok records) >>= fun x2 => N.check_records x1 x2) >>= fun _ => ((((.ok woods) >>= fun x1 => (.ok records) >>= fun x2 => N.told_years x1 x2) >>= fun a => .ok a.1) >>= fun told => ((((.ok records) >>= fun x1 => (.ok told) >>= fun x2 => N.unlike_record x1 x2) >>= fun a => .ok (decide (a = none))) >>= fun c => if c then ((.ok told) >>= fun z => .ok (some z)) else (.ok (none : (Option (List Int)))))))
theorem M.years_eq : @M.years = @N.years := by
  funext woods records
  delta M.years
  delta N.years
  simp only [Res.bind_assoc', Res.ok_bind2, Res.bind_ok] <;> rfl
theorem sc_years : FnScope ["woods", "records", "told"] ["woods", "records"] (defScope s_years) := ⟨rfl, rfl, rfl, by decide +kernel, rfl, by decide +kernel, by decide +kernel⟩
theorem ok_years {P : Program} {w : World} {K : PySem.W.Frag} {mg : Str → Option Value} {base : Heap} (bi : Bi P K mg) {fa : Addr} {fd : FuncData} (F : FunD K "years" "years" (defArgs s_years) (defBody s_years) (defScope s_years) [] [] fa fd) {f_check_records : Addr} {fd_check_records : FuncData} (C_check_records : FnC K mg "check_records" f_check_records fd_check_records ["woods", "records"]) {f_told_years : Addr} {fd_told_years : FuncData} (C_told_years : FnC K mg "told_years" f_told_years fd_told_years ["woods", "records"]) {f_unlike_record : Addr} {fd_unlike_record : FuncData} (C_unlike_record : FnC K mg "unlike_record" f_unlike_record fd_unlike_record ["records", "told"]) (G_check_records : FnV P w K mg base 4 f_check_records fd_check_records ["woods", "records"] (Rn2 N.check_records)) (G_told_years : FnV P w K mg base 3 f_told_years fd_told_years ["woods", "records"] (Rn2 N.told_years)) (G_unlike_record : FnV P w K mg base 2 f_unlike_record fd_unlike_record ["records", "told"] (Rn2 N.unlike_record)) :
    FnV P w K mg base 5 fa fd ["woods", "records"] (Rn2 N.years) := by
  rw [← M.years_eq]
  refine fn2 F sc_years rfl (by decide) fun cdv A outer s H E gr woods records => ?_
  have tk : Takes (defX P w K mg base ["woods", "records", "told"] "years" (defScope s_years) fa cdv A outer s H E) (defW E) := takes_of rfl rfl rfl rfl
  have hp : PassesOwn (model (defX P w K mg base ["woods", "records", "told"] "years" (defScope s_years) fa cdv A outer s H E).prog (defX P w K mg base ["woods", "records", "told"] "years" (defScope s_years) fa cdv A outer s H E).w) (defX P w K mg base ["woods", "records", "told"] "years" (defScope s_years) fa cdv A outer s H E).A (defX P w K mg base ["woods", "records", "told"] "years" (defScope s_years) fa cdv A outer s H E).env (defX P w K mg base ["woods", "records", "told"] "years" (defScope s_years) fa cdv A outer s H E).xe := passes_of rfl
  have hN := sc_years.nd
  unfold M.years
  refine XB.expr ?ex ?_
  case ex => exact (XV.fn2 (G_check_records.mono (by decide)) C_check_records gr tk (XV.var 0 rfl) (XV.var 1 rfl))
  refine XB.asg 2 [1] (fun told => [(2, SV.sh (toD told)), (1, SV.sh (toD records))]) hN ?ex ?_
  case ex => exact (XV.item (k := 0) (fun a : ((List Int) × (List (List (Int × Int)))) => a.1) (fun _ => ⟨_, rfl, rfl⟩) (XV.w (XV.fn2 (G_told_years.mono (by decide)) C_told_years gr tk (XV.var 0 rfl) (XV.var 1 rfl))))
  intro told
  exact XB.ret (XV.ite (XT.isN (XV.w (XV.fn2 (G_unlike_record.mono (by decide)) C_unlike_record gr tk (XV.var 1 rfl) (XV.var 0 rfl)))) (XV.someC (XV.var 0 rfl)) XV.noneC)
def N.do_fit (woods : Int) (records : (List (T3 Int Int Int))) (told : (List Int)) : Res Bool :=
  (N.check_records woods records) >>= fun τ1 => (if (decide ((lenL told) = woods)) then ((N.unlike_record records told) >>= fun τ2 => .ok (decide (τ2 = none))) else .ok false) >>= fun τ3 => .ok τ3
def M.do_fit (woods : Int) (records : (List (T3 Int Int Int))) (told : (List Int)) : Res Bool :=
  (((.ok woods) >>= fun x1 => (.ok records) >>= fun x2 => N.check_records x1 x2) >>= fun _ => ((((.ok told) >>= fun a => Res.ok (lenL a)) >>= fun a => (.ok woods) >>= fun b => .ok (decide (a = b))) >>= fun c => if c then (((.ok records) >>= fun x1 => (.ok told) >>= fun x2 => N.unlike_record x1 x2) >>= fun a => .ok (decide (a = none))) else .ok false))
theorem M.do_fit_eq : @M.do_fit = @N.do_fit := by
  funext woods records told
  delta M.do_fit
  delta N.do_fit
  simp only [Res.bind_assoc', Res.ok_bind2, Res.bind_ok] <;> rfl
theorem sc_do_fit : FnScope ["woods", "records", "told"] ["woods", "records", "told"] (defScope s_do_fit) := ⟨rfl, rfl, rfl, by decide +kernel, rfl, by decide +kernel, by decide +kernel⟩
theorem ok_do_fit {P : Program} {w : World} {K : PySem.W.Frag} {mg : Str → Option Value} {base : Heap} (bi : Bi P K mg) {fa : Addr} {fd : FuncData} (F : FunD K "do_fit" "do_fit" (defArgs s_do_fit) (defBody s_do_fit) (defScope s_do_fit) [] [] fa fd) {f_check_records : Addr} {fd_check_records : FuncData} (C_check_records : FnC K mg "check_records" f_check_records fd_check_records ["woods", "records"]) {f_unlike_record : Addr} {fd_unlike_record : FuncData} (C_unlike_record : FnC K mg "unlike_record" f_unlike_record fd_unlike_record ["records", "told"]) (G_check_records : FnV P w K mg base 4 f_check_records fd_check_records ["woods", "records"] (Rn2 N.check_records)) (G_unlike_record : FnV P w K mg base 2 f_unlike_record fd_unlike_record ["records", "told"] (Rn2 N.unlike_record)) :
    FnV P w K mg base 5 fa fd ["woods", "records", "told"] (Rn3 N.do_fit) := by
  rw [← M.do_fit_eq]
  refine fn3 F sc_do_fit rfl (by decide) fun cdv A outer s H E gr woods records told => ?_
  have tk : Takes (defX P w K mg base ["woods", "records", "told"] "do_fit" (defScope s_do_fit) fa cdv A outer s H E) (defW E) := takes_of rfl rfl rfl rfl
  have hp : PassesOwn (model (defX P w K mg base ["woods", "records", "told"] "do_fit" (defScope s_do_fit) fa cdv A outer s H E).prog (defX P w K mg base ["woods", "records", "told"] "do_fit" (defScope s_do_fit) fa cdv A outer s H E).w) (defX P w K mg base ["woods", "records", "told"] "do_fit" (defScope s_do_fit) fa cdv A outer s H E).A (defX P w K mg base ["woods", "records", "told"] "do_fit" (defScope s_do_fit) fa cdv A outer s H E).env (defX P w K mg base ["woods", "records", "told"] "do_fit" (defScope s_do_fit) fa cdv A outer s H E).xe := passes_of rfl
  have hN := sc_do_fit.nd
  unfold M.do_fit
  refine XB.expr ?ex ?_
  case ex => exact (XV.fn2 (G_check_records.mono (by decide)) C_check_records gr tk (XV.var 0 rfl) (XV.var 1 rfl))
  exact XB.ret (XV.and (XV.cmp (c_eq (α := Int) gr.r) (XV.w (XV.callB b_len (by rfl) bi.b_len (by rfl) (XV.w (XV.var 2 rfl)))) (XV.w (XV.var 0 rfl))) (XV.one (XV.isN (XV.w (XV.fn2 (G_unlike_record.mono (by decide)) C_unlike_record gr tk (XV.var 1 rfl) (XV.var 2 rfl))))))
def N.ring (woods : Int) (records : (List (T3 Int Int Int))) : Res (Option (List (Int × Int))) :=
  (N.check_records woods records) >>= fun τ1 => (N.told_years woods records) >>= fun π3 => (N.unlike_record records π3.1) >>= fun k' => (if (decide (k' = none)) then (.ok none) else
  ((unO k') >>= fun τ7 => (getL records τ7) >>= fun τ6 => (getL π3.2 τ6.b) >>= fun τ5 => (lcR (fun ξ8 => .ok true) (fun ξ8 => .ok (ξ8.1, (-ξ8.2))) τ5.reverse) >>= fun back => (unO k') >>= fun τ12 => (getL records τ12) >>= fun τ11 => (getL π3.2 τ11.a) >>= fun τ10 => (unO k') >>= fun τ13 => (mkL (τ10 ++ ((τ13, (1 : Int)) :: (back ++ [])))) >>= fun τ14 => .ok (some τ14)))
def M.ring (woods : Int) (records : (List (T3 Int Int Int))) : Res (Option (List (Int × Int))) :=
  (((.ok woods) >>= fun x1 => (.ok records) >>= fun x2 => N.check_records x1 x2) >>= fun _ => (((.ok woods) >>= fun x1 => (.ok records) >>= fun x2 => N.told_years x1 x2) >>= fun π3 => (((.ok records) >>= fun x1 => (.ok π3.1) >>= fun x2 => N.unlike_record x1 x2) >>= fun k' => (((.ok k') >>= fun a => .ok (decide (a = none))) >>= fun b => if b then (.ok (none : (Option (List (Int × Int))))) else ((((.ok π3.2) >>= fun a => (((.ok records) >>= fun a => ((.ok k') >>= fun z => unO z) >>= fun b => getL a b) >>= fun a => .ok a.b) >>= fun b => getL a b) >>= fun a => .ok a.reverse) >>= fun xs => lcR (fun ξ8 => (.ok true)) (fun ξ8 => ((.ok ξ8.1) >>= fun a => ((.ok ξ8.2) >>= fun a => Res.ok (-a)) >>= fun b => Res.ok (a, b))) xs >>= fun back => (((((.ok π3.2) >>= fun a => (((.ok records) >>= fun a => ((.ok k') >>= fun z => unO z) >>= fun b => getL a b) >>= fun a => .ok a.a) >>= fun b => getL a b) >>= fun x => ((((.ok k') >>= fun z => unO z) >>= fun a => (.ok (1 : Int)) >>= fun b => Res.ok (a, b)) >>= fun x => ((.ok back) >>= fun x => (.ok []) >>= fun xs => .ok (x ++ xs)) >>= fun xs => .ok (x :: xs)) >>= fun xs => .ok (x ++ xs)) >>= mkL) >>= fun z => .ok (some z)))))))
theorem M.ring_eq : @M.ring = @N.ring := by
  funext woods records
  delta M.ring
  delta N.ring
  simp only [Res.bind_assoc', Res.ok_bind2, Res.bind_ok] <;> rfl
theorem sc_ring : FnScope ["woods", "records", "told", "ways", "k", "back", "other", "sign"] ["woods", "records"] (defScope s_ring) := ⟨rfl, rfl, rfl, by decide +kernel, rfl, by decide +kernel, by decide +kernel⟩
theorem ok_ring {P : Program} {w : World} {K : PySem.W.Frag} {mg : Str → Option Value} {base : Heap} (bi : Bi P K mg) {fa : Addr} {fd : FuncData} (F : FunD K "ring" "ring" (defArgs s_ring) (defBody s_ring) (defScope s_ring) [] [] fa fd) {f_check_records : Addr} {fd_check_records : FuncData} (C_check_records : FnC K mg "check_records" f_check_records fd_check_records ["woods", "records"]) {f_told_years : Addr} {fd_told_years : FuncData} (C_told_years : FnC K mg "told_years" f_told_years fd_told_years ["woods", "records"]) {f_unlike_record : Addr} {fd_unlike_record : FuncData} (C_unlike_record : FnC K mg "unlike_record" f_unlike_record fd_unlike_record ["records", "told"]) (G_check_records : FnV P w K mg base 4 f_check_records fd_check_records ["woods", "records"] (Rn2 N.check_records)) (G_told_years : FnV P w K mg base 3 f_told_years fd_told_years ["woods", "records"] (Rn2 N.told_years)) (G_unlike_record : FnV P w K mg base 2 f_unlike_record fd_unlike_record ["records", "told"] (Rn2 N.unlike_record)) :
    FnV P w K mg base 5 fa fd ["woods", "records"] (Rn2 N.ring) := by
  rw [← M.ring_eq]
  refine fn2 F sc_ring rfl (by decide) fun cdv A outer s H E gr woods records => ?_
  have tk : Takes (defX P w K mg base ["woods", "records", "told", "ways", "k", "back", "other", "sign"] "ring" (defScope s_ring) fa cdv A outer s H E) (defW E) := takes_of rfl rfl rfl rfl
  have hp : PassesOwn (model (defX P w K mg base ["woods", "records", "told", "ways", "k", "back", "other", "sign"] "ring" (defScope s_ring) fa cdv A outer s H E).prog (defX P w K mg base ["woods", "records", "told", "ways", "k", "back", "other", "sign"] "ring" (defScope s_ring) fa cdv A outer s H E).w) (defX P w K mg base ["woods", "records", "told", "ways", "k", "back", "other", "sign"] "ring" (defScope s_ring) fa cdv A outer s H E).A (defX P w K mg base ["woods", "records", "told", "ways", "k", "back", "other", "sign"] "ring" (defScope s_ring) fa cdv A outer s H E).env (defX P w K mg base ["woods", "records", "told", "ways", "k", "back", "other", "sign"] "ring" (defScope s_ring) fa cdv A outer s H E).xe := passes_of rfl
  have hN := sc_ring.nd
  unfold M.ring
  refine XB.expr ?ex ?_
  case ex => exact (XV.fn2 (G_check_records.mono (by decide)) C_check_records gr tk (XV.var 0 rfl) (XV.var 1 rfl))
  refine XB.asgT [2, 3] (fun π3 => [(3, SV.sh (toD π3.2)), (2, SV.sh (toD π3.1)), (1, SV.sh (toD records))]) hN ?ex (fun π3 => XG.weak (ρ0 := [(1, SV.sh (toD records))]) ((XG.tup rfl (XGs.cons (ρ1 := [(2, SV.sh (toD π3.1)), (1, SV.sh (toD records))]) (XG.name 2 [0] hN) (XGs.cons (ρ1 := [(3, SV.sh (toD π3.2)), (2, SV.sh (toD π3.1)), (1, SV.sh (toD records))]) (XG.name 3 [0, 1] hN) XGs.nil)))) (wk [1])) ?_
  case ex => exact (XV.fn2 (G_told_years.mono (by decide)) C_told_years gr tk (XV.var 0 rfl) (XV.var 1 rfl))
  intro π3
  refine XB.asg 4 [0, 2] (fun k' => [(4, SV.sh (toD k')), (3, SV.sh (toD π3.2)), (1, SV.sh (toD records))]) hN ?ex ?_
  case ex => exact (XV.fn2 (G_unlike_record.mono (by decide)) C_unlike_record gr tk (XV.var 2 rfl) (XV.var 1 rfl))
  intro k'
  refine XB.ifR ?tst ?_ ?_ (by intro t h ρ2 h2; cases h2)
  case tst => exact (XT.isN (XV.w (XV.var 0 rfl)))
  · skip
    exact XB.ret XV.noneC
  · skip
    refine XB.asgLc (is := [6, 7]) 5 [("other", 6), ("sign", 7)] [0, 1, 2] [0, 1, 2] [(4, SV.sh (toD k')), (3, SV.sh (toD π3.2)), (1, SV.sh (toD records))] (fun ξ8 => [(7, SV.sh (toD ξ8.2)), (6, SV.sh (toD ξ8.1)), (4, SV.sh (toD k')), (3, SV.sh (toD π3.2)), (1, SV.sh (toD records))]) (fun back => [(5, SV.ow (toD back)), (4, SV.sh (toD k')), (3, SV.sh (toD π3.2)), (1, SV.sh (toD records))]) rfl hN ?hi (by rfl) ?hg ?ht ?he ?_ (by rfl)
    case hi => exact (XI.rev bi.b_reversed (XV.idx (XV.w (XV.var 1 rfl)) (XV.item (k := 1) (fun a : (T3 Int Int Int) => a.b) (fun _ => ⟨_, rfl, rfl⟩) (XV.w (XV.idx (XV.w (XV.var 2 rfl)) (XV.unO (XV.var 0 rfl)))))))
    case hg => exact (fun ξ8 _ _ _ _ _ => (XG.tup rfl (XGs.cons (ρ1 := [(6, SV.sh (toD ξ8.1)), (4, SV.sh (toD k')), (3, SV.sh (toD π3.2)), (1, SV.sh (toD records))]) (XG.name 6 [0, 1, 2] hN) (XGs.cons (ρ1 := [(7, SV.sh (toD ξ8.2)), (6, SV.sh (toD ξ8.1)), (4, SV.sh (toD k')), (3, SV.sh (toD π3.2)), (1, SV.sh (toD records))]) (XG.name 7 [0, 1, 2, 3] hN) XGs.nil))))
    case ht => exact (fun ξ8 _ _ _ _ _ => XTs.nil)
    case he => exact (fun ξ8 _ _ _ _ _ => (XV.tup2 (XV.var 1 rfl) (XV.neg (XV.var 0 rfl))))
    intro back
    exact XB.ret (XV.someC (XF.v (XF.lstG (XL.star (XV.w (XV.idx (XV.w (XV.var 2 rfl)) (XV.item (k := 0) (fun a : (T3 Int Int Int) => a.a) (fun _ => ⟨_, rfl, rfl⟩) (XV.w (XV.idx (XV.w (XV.var 3 rfl)) (XV.unO (XV.var 1 rfl))))))) (XL.cons (XV.tup2 (XV.unO (XV.var 1 rfl)) XV.int) (XL.star (XW.own 0 rfl) XL.nil))))))
def N.is_row (row : (List Int)) : Res Bool :=
  (tryN kn ((N.check_row row) >>= fun τ1 => .ok ()) (fun σ2 => .ok true) (.ok false))
def M.is_row (row : (List Int)) : Res Bool :=
  (tryN kn (((.ok row) >>= fun x1 => N.check_row x1) >>= fun _ => (.ok ())) (fun σ2 => .ok true) (.ok false))
theorem M.is_row_eq : @M.is_row = @N.is_row := by
  funext row
  delta M.is_row
  delta N.is_row
  simp only [Res.bind_assoc', Res.ok_bind2, Res.bind_ok] <;> rfl
theorem sc_is_row : FnScope ["row"] ["row"] (defScope s_is_row) := ⟨rfl, rfl, rfl, by decide +kernel, rfl, by decide +kernel, by decide +kernel⟩
theorem ok_is_row {P : Program} {w : World} {K : PySem.W.Frag} {mg : Str → Option Value} {base : Heap} (bi : Bi P K mg) {fa : Addr} {fd : FuncData} (F : FunD K "is_row" "is_row" (defArgs s_is_row) (defBody s_is_row) (defScope s_is_row) [] [] fa fd) {f_check_row : Addr} {fd_check_row : FuncData} (C_check_row : FnC K mg "check_row" f_check_row fd_check_row ["row"]) (G_check_row : FnV P w K mg base 4 f_check_row fd_check_row ["row"] (Rn1 N.check_row)) :
    FnV P w K mg base 5 fa fd ["row"] (Rn1 N.is_row) := by
  rw [← M.is_row_eq]
  refine fn1 F sc_is_row rfl (by decide) fun cdv A outer s H E gr row => ?_
  have tk : Takes (defX P w K mg base ["row"] "is_row" (defScope s_is_row) fa cdv A outer s H E) (defW E) := takes_of rfl rfl rfl rfl
  have hp : PassesOwn (model (defX P w K mg base ["row"] "is_row" (defScope s_is_row) fa cdv A outer s H E).prog (defX P w K mg base ["row"] "is_row" (defScope s_is_row) fa cdv A outer s H E).w) (defX P w K mg base ["row"] "is_row" (defScope s_is_row) fa cdv A outer s H E).A (defX P w K mg base ["row"] "is_row" (defScope s_is_row) fa cdv A outer s H E).env (defX P w K mg base ["row"] "is_row" (defScope s_is_row) fa cdv A outer s H E).xe := passes_of rfl
  have hN := sc_is_row.nd
  unfold M.is_row
  refine XB.tryN kn (fun (σ2 : Unit) => []) bi.cl_base bi.exd tk ?_ (fun a oe pn hf => by exact XB.ret XV.bool) ?_ (fun _ => ⟨_, rfl⟩)
  · intro W2 pn2 xe2 tk hp
    refine XB.expr ?ex ?_
    case ex => exact (XV.fn1 (G_check_row.mono (by decide)) C_check_row gr tk (XV.var 0 rfl))
    exact XB.nilT (t := ()) rfl (wk [])
  intro σ2
  exact XB.ret XV.bool
def N.mean_row_l1  : (Unit) → (Int × (List Int)) → Res (Unit) := fun σ2 ξ3 =>
  (N.is_row ξ3.2) >>= fun τ5 => (if (!τ5) then dropE (.exc "BadRow" ξ3.1) else
  (.ok ()))
def N.mean_row_l2  : (Unit) → (Int × Int) → Res (Unit) := fun σ7 ξ8 =>
  (if (decide (1000 < (absI ξ8.2))) then dropE (.exc "BadYear" ξ8.1) else
  (.ok ()))
def N.mean_row_l3 (rows : (List (List Int))) (told : (List Int)) : ((List (Option (Int × Int)))) → Int → Res ((List (Option (Int × Int)))) := fun σ15 ξ16 =>
  (lcR (fun ξ17 => (if decide ((0 : Int) ≤ (ξ16 - ξ17.1)) then (.ok (decide ((ξ16 - ξ17.1) < (lenL ξ17.2)))) else .ok false) >>= fun τ18 => .ok τ18) (fun ξ17 => (getL ξ17.2 (ξ16 - ξ17.1)) >>= fun τ19 => .ok τ19) (told.zip rows)) >>= fun widths => (if (decide ((0 : Int) < (lenL widths))) then ((N.fraction (sumI widths) (lenL widths)) >>= fun τ21 => .ok (some τ21)) else (.ok none)) >>= fun τ22 => (pushL σ15 τ22) >>= fun found => .ok found
def N.mean_row (rows : (List (List Int))) (told : (List Int)) : Res (List (Option (Int × Int))) :=
  (if decide ((1 : Int) ≤ (lenL rows)) then (.ok (decide ((lenL rows) ≤ 10))) else .ok false) >>= fun τ1 => (if (!τ1) then (.exc "WrongSize" (lenL rows)) else
  ((foldR (N.mean_row_l1) (enumL rows) ()) >>= fun σ6 => (if (!decide ((lenL told) = (lenL rows))) then (.exc "BadYear" (-(1 : Int))) else
  ((foldR (N.mean_row_l2) (enumL told) ()) >>= fun σ9 => (let found : (List (Option (Int × Int))) := ([] : (List (Option (Int × Int))))
  (minL told) >>= fun τ10 => (lcR (fun ξ11 => .ok true) (fun ξ11 => .ok (ξ11.1 + (lenL ξ11.2))) (told.zip rows)) >>= fun τ12 => (maxL τ12) >>= fun τ13 => (rangeR τ10 τ13) >>= fun τ14 => (foldR (N.mean_row_l3 rows told) τ14 found) >>= fun σ23 => .ok σ23)))))
def M.mean_row (rows : (List (List Int))) (told : (List Int)) : Res (List (Option (Int × Int))) :=
  ((((.ok (1 : Int)) >>= fun a => ((.ok rows) >>= fun a => Res.ok (lenL a)) >>= fun b => if decide (a ≤ b) then (.ok (10 : Int)) >>= fun c => .ok (decide (b ≤ c)) else .ok false) >>= fun a => Res.ok (!a)) >>= fun b => if b then (((.ok rows) >>= fun a => Res.ok (lenL a)) >>= fun i => .exc "WrongSize" i) else (((.ok rows) >>= fun a => .ok (enumL a)) >>= fun xs => foldR (fun σ2 ξ3 => ((((.ok ξ3.2) >>= fun x1 => N.is_row x1) >>= fun a => Res.ok (!a)) >>= fun b => if b then dropE ((.ok ξ3.1) >>= fun i => .exc "BadRow" i) else (.ok ()))) xs () >>= fun σ6 => ((((.ok told) >>= fun a => Res.ok (lenL a)) >>= fun a => ((.ok rows) >>= fun a => Res.ok (lenL a)) >>= fun b => .ok (!decide (a = b))) >>= fun b => if b then (((.ok (1 : Int)) >>= fun a => Res.ok (-a)) >>= fun i => .exc "BadYear" i) else (((.ok told) >>= fun a => .ok (enumL a)) >>= fun xs => foldR (fun σ7 ξ8 => ((((.ok ξ8.2) >>= fun a => Res.ok (absI a)) >>= fun a => (.ok (1000 : Int)) >>= fun b => .ok (decide (b < a))) >>= fun b => if b then dropE ((.ok ξ8.1) >>= fun i => .exc "BadYear" i) else (.ok ()))) xs () >>= fun σ9 => ((.ok ([] : (List (Option (Int × Int))))) >>= fun found => ((((.ok told) >>= fun a => minL a) >>= fun a => ((((.ok told) >>= fun a => (.ok rows) >>= fun b => .ok (a.zip b)) >>= fun xs => lcR (fun ξ11 => (.ok true)) (fun ξ11 => ((.ok ξ11.1) >>= fun a => ((.ok ξ11.2) >>= fun a => Res.ok (lenL a)) >>= fun b => Res.ok (a + b))) xs) >>= fun a => maxL a) >>= fun b => rangeR a b) >>= fun xs => foldR (fun σ15 ξ16 => (((.ok told) >>= fun a => (.ok rows) >>= fun b => .ok (a.zip b)) >>= fun xs => lcR (fun ξ17 => ((.ok (0 : Int)) >>= fun a => ((.ok ξ16) >>= fun a => (.ok ξ17.1) >>= fun b => Res.ok (a - b)) >>= fun b => if decide (a ≤ b) then ((.ok ξ17.2) >>= fun a => Res.ok (lenL a)) >>= fun c => .ok (decide (b < c)) else .ok false)) (fun ξ17 => ((.ok ξ17.2) >>= fun a => ((.ok ξ16) >>= fun a => (.ok ξ17.1) >>= fun b => Res.ok (a - b)) >>= fun b => getL a b)) xs >>= fun widths => (((((.ok widths) >>= fun a => Res.ok (lenL a)) >>= fun a => (.ok (0 : Int)) >>= fun b => .ok (decide (b < a))) >>= fun c => if c then ((((.ok widths) >>= fun a => Res.ok (sumI a)) >>= fun x1 => ((.ok widths) >>= fun a => Res.ok (lenL a)) >>= fun x2 => N.fraction x1 x2) >>= fun z => .ok (some z)) else (.ok (none : (Option (Int × Int))))) >>= fun y => pushL σ15 y >>= fun found => (.ok found)))) xs found >>= fun σ23 => (.ok σ23)))))))
theorem M.mean_row_eq : @M.mean_row = @N.mean_row := by
  funext rows told
  delta M.mean_row
  delta N.mean_row
  delta N.mean_row_l3
  delta N.mean_row_l2
  delta N.mean_row_l1
  simp only [Res.bind_assoc', Res.ok_bind2, Res.bind_ok] <;> rfl
theorem sc_mean_row : FnScope ["rows", "told", "k", "row", "year", "found", "widths", "start"] ["rows", "told"] (defScope s_mean_row) := ⟨rfl, rfl, rfl, by decide +kernel, rfl, by decide +kernel, by decide +kernel⟩
theorem ok_mean_row {P : Program} {w : World} {K : PySem.W.Frag} {mg : Str → Option Value} {base : Heap} (bi : Bi P K mg) {fa : Addr} {fd : FuncData} (F : FunD K "mean_row" "mean_row" (defArgs s_mean_row) (defBody s_mean_row) (defScope s_mean_row) [] [] fa fd) {f_fraction : Addr} {fd_fraction : FuncData} (C_fraction : FnC K mg "fraction" f_fraction fd_fraction ["number", "by"]) {f_is_row : Addr} {fd_is_row : FuncData} (C_is_row : FnC K mg "is_row" f_is_row fd_is_row ["row"]) (G_fraction : FnV P w K mg base 2 f_fraction fd_fraction ["number", "by"] (Rn2 N.fraction)) (G_is_row : FnV P w K mg base 5 f_is_row fd_is_row ["row"] (Rn1 N.is_row)) :
    FnV P w K mg base 6 fa fd ["rows", "told"] (Rn2 N.mean_row) := by
  rw [← M.mean_row_eq]
  refine fn2 F sc_mean_row rfl (by decide) fun cdv A outer s H E gr rows told => ?_
  have tk : Takes (defX P w K mg base ["rows", "told", "k", "row", "year", "found", "widths", "start"] "mean_row" (defScope s_mean_row) fa cdv A outer s H E) (defW E) := takes_of rfl rfl rfl rfl
  have hp : PassesOwn (model (defX P w K mg base ["rows", "told", "k", "row", "year", "found", "widths", "start"] "mean_row" (defScope s_mean_row) fa cdv A outer s H E).prog (defX P w K mg base ["rows", "told", "k", "row", "year", "found", "widths", "start"] "mean_row" (defScope s_mean_row) fa cdv A outer s H E).w) (defX P w K mg base ["rows", "told", "k", "row", "year", "found", "widths", "start"] "mean_row" (defScope s_mean_row) fa cdv A outer s H E).A (defX P w K mg base ["rows", "told", "k", "row", "year", "found", "widths", "start"] "mean_row" (defScope s_mean_row) fa cdv A outer s H E).env (defX P w K mg base ["rows", "told", "k", "row", "year", "found", "widths", "start"] "mean_row" (defScope s_mean_row) fa cdv A outer s H E).xe := passes_of rfl
  have hN := sc_mean_row.nd
  unfold M.mean_row
  refine XB.ifR ?tst ?_ ?_ (by intro t h ρ2 h2; cases h2)
  case tst => exact (XT.not (XT.chain c_le c_le (XV.w XV.int) (XV.w (XV.callB b_len (by rfl) bi.b_len (by rfl) (XV.w (XV.var 0 rfl)))) (XV.w (XV.globI bi.c_MOST_ROWS))))
  · skip
    exact XB.raise (bi.dig "WrongSize" (by decide)) gr rfl tk (XV.callB b_len (by rfl) bi.b_len (by rfl) (XV.w (XV.var 0 rfl)))
  · skip
    refine XB.forS (fun (σ2 : Unit) => [(0, SV.sh (toD rows)), (1, SV.sh (toD told))]) (fun (σ2 : Unit) (ξ3 : (Int × (List Int))) => [(3, SV.sh (toD ξ3.2)), (2, SV.sh (toD ξ3.1)), (0, SV.sh (toD rows)), (1, SV.sh (toD told))]) hp rfl (XI.enum bi.b_enumerate (XV.var 0 rfl)) (fun σ2 ξ3 => (XG.tup rfl (XGs.cons (ρ1 := [(2, SV.sh (toD ξ3.1)), (0, SV.sh (toD rows)), (1, SV.sh (toD told))]) (XG.name 2 [0, 1] hN) (XGs.cons (ρ1 := [(3, SV.sh (toD ξ3.2)), (2, SV.sh (toD ξ3.1)), (0, SV.sh (toD rows)), (1, SV.sh (toD told))]) (XG.name 3 [0, 1, 2] hN) XGs.nil)))) ?_ (wk [0, 1]) ?_
    · intro σ2 ξ3
      refine XB.ifX ?tst ?_ ?_
      case tst => exact (XT.not (XT.val (XV.fn1 (G_is_row.mono (by decide)) C_is_row gr tk (XV.var 0 rfl))))
      · skip
        exact XB.raise (bi.dig "BadRow" (by decide)) gr rfl tk (XV.var 1 rfl)
      · skip
        exact XB.nilT (t := ()) rfl (wk [2, 3])
    intro σ6
    refine XB.ifR ?tst ?_ ?_ (by intro t h ρ2 h2; cases h2)
    case tst => exact (XT.cmp (c_ne (α := Int) gr.r) (XV.w (XV.callB b_len (by rfl) bi.b_len (by rfl) (XV.w (XV.var 1 rfl)))) (XV.w (XV.callB b_len (by rfl) bi.b_len (by rfl) (XV.w (XV.var 0 rfl)))))
    · skip
      exact XB.raise (bi.dig "BadYear" (by decide)) gr rfl tk (XV.neg XV.int)
    · skip
      refine XB.forS (fun (σ7 : Unit) => [(0, SV.sh (toD rows)), (1, SV.sh (toD told))]) (fun (σ7 : Unit) (ξ8 : (Int × Int)) => [(4, SV.sh (toD ξ8.2)), (2, SV.sh (toD ξ8.1)), (0, SV.sh (toD rows)), (1, SV.sh (toD told))]) hp rfl (XI.enum bi.b_enumerate (XV.var 1 rfl)) (fun σ7 ξ8 => (XG.tup rfl (XGs.cons (ρ1 := [(2, SV.sh (toD ξ8.1)), (0, SV.sh (toD rows)), (1, SV.sh (toD told))]) (XG.name 2 [0, 1] hN) (XGs.cons (ρ1 := [(4, SV.sh (toD ξ8.2)), (2, SV.sh (toD ξ8.1)), (0, SV.sh (toD rows)), (1, SV.sh (toD told))]) (XG.name 4 [0, 1, 2] hN) XGs.nil)))) ?_ (wk [0, 1]) ?_
      · intro σ7 ξ8
        refine XB.ifX ?tst ?_ ?_
        case tst => exact (XT.cmp c_gt (XV.w (XV.callB b_abs (by rfl) bi.b_abs (by rfl) (XV.w (XV.var 0 rfl)))) (XV.w (XV.globI bi.c_MOST_SHIFT)))
        · skip
          exact XB.raise (bi.dig "BadYear" (by decide)) gr rfl tk (XV.var 1 rfl)
        · skip
          exact XB.nilT (t := ()) rfl (wk [2, 3])
      intro σ9
      refine XB.asgO 5 [0, 1] (fun found => [(5, SV.ow (toD found)), (0, SV.sh (toD rows)), (1, SV.sh (toD told))]) hN ?ex ?_
      case ex => exact XF.lst0
      intro found
      refine XB.forS (fun (σ15 : (List (Option (Int × Int)))) => [(5, SV.ow (toD σ15)), (0, SV.sh (toD rows)), (1, SV.sh (toD told))]) (fun (σ15 : (List (Option (Int × Int)))) (ξ16 : Int) => [(4, SV.sh (toD ξ16)), (5, SV.ow (toD σ15)), (0, SV.sh (toD rows)), (1, SV.sh (toD told))]) hp rfl (XI.range2 bi.b_range (XV.callB (b_min rfl) (by rfl) bi.b_min (by rfl) (XV.w (XV.var 2 rfl))) (XV.callB (b_max rfl) (by rfl) bi.b_max (by rfl) (XF.w (XF.lc [("start", 7), ("row", 3)] [0, 1, 2] [(5, SV.ow (toD found)), (0, SV.sh (toD rows)), (1, SV.sh (toD told))] (fun ξ11 => [(3, SV.sh (toD ξ11.2)), (7, SV.sh (toD ξ11.1)), (5, SV.ow (toD found)), (0, SV.sh (toD rows)), (1, SV.sh (toD told))]) rfl hN (XI.zip bi.b_zip (XV.var 2 rfl) (XV.var 1 rfl)) (by rfl) (fun ξ11 _ _ _ _ _ => (XG.tup rfl (XGs.cons (ρ1 := [(7, SV.sh (toD ξ11.1)), (5, SV.ow (toD found)), (0, SV.sh (toD rows)), (1, SV.sh (toD told))]) (XG.name 7 [0, 1, 2] hN) (XGs.cons (ρ1 := [(3, SV.sh (toD ξ11.2)), (7, SV.sh (toD ξ11.1)), (5, SV.ow (toD found)), (0, SV.sh (toD rows)), (1, SV.sh (toD told))]) (XG.name 3 [0, 1, 2, 3] hN) XGs.nil)))) (fun ξ11 _ _ _ _ _ => XTs.nil) (fun ξ11 _ _ _ _ _ => (XV.bin o_add (XV.var 1 rfl) (XV.callB b_len (by rfl) bi.b_len (by rfl) (XV.w (XV.var 0 rfl))))))))) (fun σ15 ξ16 => (XG.name 4 [0, 1, 2] hN)) ?_ (wk [0, 1, 2]) ?_
      · intro σ15 ξ16
        refine XB.asgLc (is := [7, 3]) 6 [("start", 7), ("row", 3)] [0, 1, 2, 3] [1, 2, 3] [(4, SV.sh (toD ξ16)), (5, SV.ow (toD σ15)), (0, SV.sh (toD rows)), (1, SV.sh (toD told))] (fun ξ17 => [(3, SV.sh (toD ξ17.2)), (7, SV.sh (toD ξ17.1)), (4, SV.sh (toD ξ16)), (5, SV.ow (toD σ15)), (0, SV.sh (toD rows)), (1, SV.sh (toD told))]) (fun widths => [(6, SV.ow (toD widths)), (5, SV.ow (toD σ15)), (0, SV.sh (toD rows)), (1, SV.sh (toD told))]) rfl hN ?hi (by rfl) ?hg ?ht ?he ?_ (by rfl)
        case hi => exact (XI.zip bi.b_zip (XV.var 3 rfl) (XV.var 2 rfl))
        case hg => exact (fun ξ17 _ _ _ _ _ => (XG.tup rfl (XGs.cons (ρ1 := [(7, SV.sh (toD ξ17.1)), (4, SV.sh (toD ξ16)), (5, SV.ow (toD σ15)), (0, SV.sh (toD rows)), (1, SV.sh (toD told))]) (XG.name 7 [0, 1, 2, 3] hN) (XGs.cons (ρ1 := [(3, SV.sh (toD ξ17.2)), (7, SV.sh (toD ξ17.1)), (4, SV.sh (toD ξ16)), (5, SV.ow (toD σ15)), (0, SV.sh (toD rows)), (1, SV.sh (toD told))]) (XG.name 3 [0, 1, 2, 3, 4] hN) XGs.nil))))
        case ht => exact (fun ξ17 _ _ _ _ _ => (XTs.one (XT.chain c_le c_lt (XV.w XV.int) (XV.w (XV.bin o_sub (XV.var 2 rfl) (XV.var 1 rfl))) (XV.w (XV.callB b_len (by rfl) bi.b_len (by rfl) (XV.w (XV.var 0 rfl)))))))
        case he => exact (fun ξ17 _ _ _ _ _ => (XV.idx (XV.w (XV.var 0 rfl)) (XV.bin o_sub (XV.var 2 rfl) (XV.var 1 rfl))))
        intro widths
        refine XB.append 1 5 [2, 3] (fun found => [(5, SV.ow (toD found)), (0, SV.sh (toD rows)), (1, SV.sh (toD told))]) rfl ?ex ?_
        case ex => exact (XV.ite (XT.cmp c_gt (XV.w (XV.callB b_len (by rfl) bi.b_len (by rfl) (XW.own 0 rfl))) (XV.w XV.int)) (XV.someC (XV.fn2 (G_fraction.mono (by decide)) C_fraction gr tk (XV.callB (b_sum rfl) (by rfl) bi.b_sum (by rfl) (XW.own 0 rfl)) (XV.callB b_len (by rfl) bi.b_len (by rfl) (XW.own 0 rfl)))) XV.noneC)
        intro found
        exact XB.nilT (t := found) rfl (wk [0, 1, 2])
      intro σ23
      refine XB.freeze (x := σ23) 0 5 [1, 2] [(5, SV.sh (toD σ23)), (0, SV.sh (toD rows)), (1, SV.sh (toD told))] rfl ?_
      exact XB.ret (XV.var 0 rfl)
def N.check_laid (master : (List Int)) (row : (List Int)) (price : Int) : Res Unit :=
  (N.check_rows master row) >>= fun τ1 => (if (decide ((lenL master) < (lenL row))) then dropE (.exc "TooLarge" (lenL row)) else
  ((if decide ((0 : Int) ≤ price) then (.ok (decide (price ≤ 1000000))) else .ok false) >>= fun τ2 => (if (!τ2) then dropE (.exc "BadPrice" price) else
  (.ok ()))))
def M.check_laid (master : (List Int)) (row : (List Int)) (price : Int) : Res Unit :=
  (((.ok master) >>= fun x1 => (.ok row) >>= fun x2 => N.check_rows x1 x2) >>= fun _ => ((((.ok row) >>= fun a => Res.ok (lenL a)) >>= fun a => ((.ok master) >>= fun a => Res.ok (lenL a)) >>= fun b => .ok (decide (b < a))) >>= fun b => if b then dropE (((.ok row) >>= fun a => Res.ok (lenL a)) >>= fun i => .exc "TooLarge" i) else ((((.ok (0 : Int)) >>= fun a => (.ok price) >>= fun b => if decide (a ≤ b) then (.ok (1000000 : Int)) >>= fun c => .ok (decide (b ≤ c)) else .ok false) >>= fun a => Res.ok (!a)) >>= fun b => if b then dropE ((.ok price) >>= fun i => .exc "BadPrice" i) else (.ok ()))))
theorem M.check_laid_eq : @M.check_laid = @N.check_laid := by
  funext master row price
  delta M.check_laid
  delta N.check_laid
  simp only [Res.bind_assoc', Res.ok_bind2, Res.bind_ok] <;> rfl
theorem sc_check_laid : FnScope ["master", "row", "price"] ["master", "row", "price"] (defScope s_check_laid) := ⟨rfl, rfl, rfl, by decide +kernel, rfl, by decide +kernel, by decide +kernel⟩
theorem ok_check_laid {P : Program} {w : World} {K : PySem.W.Frag} {mg : Str → Option Value} {base : Heap} (bi : Bi P K mg) {fa : Addr} {fd : FuncData} (F : FunD K "check_laid" "check_laid" (defArgs s_check_laid) (defBody s_check_laid) (defScope s_check_laid) [] [] fa fd) {f_check_rows : Addr} {fd_check_rows : FuncData} (C_check_rows : FnC K mg "check_rows" f_check_rows fd_check_rows ["first", "second"]) (G_check_rows : FnV P w K mg base 5 f_check_rows fd_check_rows ["first", "second"] (Rn2 N.check_rows)) :
    FnV P w K mg base 6 fa fd ["master", "row", "price"] (Rn3 N.check_laid) := by
  rw [← M.check_laid_eq]
  refine fn3p F sc_check_laid rfl (by decide) fun cdv A outer s H E gr master row price => ?_
  have tk : Takes (defX P w K mg base ["master", "row", "price"] "check_laid" (defScope s_check_laid) fa cdv A outer s H E) (defW E) := takes_of rfl rfl rfl rfl
  have hp : PassesOwn (model (defX P w K mg base ["master", "row", "price"] "check_laid" (defScope s_check_laid) fa cdv A outer s H E).prog (defX P w K mg base ["master", "row", "price"] "check_laid" (defScope s_check_laid) fa cdv A outer s H E).w) (defX P w K mg base ["master", "row", "price"] "check_laid" (defScope s_check_laid) fa cdv A outer s H E).A (defX P w K mg base ["master", "row", "price"] "check_laid" (defScope s_check_laid) fa cdv A outer s H E).env (defX P w K mg base ["master", "row", "price"] "check_laid" (defScope s_check_laid) fa cdv A outer s H E).xe := passes_of rfl
  have hN := sc_check_laid.nd
  unfold M.check_laid
  refine XB.expr ?ex ?_
  case ex => exact (XV.fn2 (G_check_rows.mono (by decide)) C_check_rows gr tk (XV.var 0 rfl) (XV.var 1 rfl))
  refine XB.ifX ?tst ?_ ?_
  case tst => exact (XT.cmp c_gt (XV.w (XV.callB b_len (by rfl) bi.b_len (by rfl) (XV.w (XV.var 1 rfl)))) (XV.w (XV.callB b_len (by rfl) bi.b_len (by rfl) (XV.w (XV.var 0 rfl)))))
  · skip
    exact XB.raise (bi.dig "TooLarge" (by decide)) gr rfl tk (XV.callB b_len (by rfl) bi.b_len (by rfl) (XV.w (XV.var 1 rfl)))
  · skip
    refine XB.ifX ?tst ?_ ?_
    case tst => exact (XT.not (XT.chain c_le c_le (XV.w XV.int) (XV.w (XV.var 2 rfl)) (XV.w (XV.globI bi.c_MOST_PRICE))))
    · skip
      exact XB.raise (bi.dig "BadPrice" (by decide)) gr rfl tk (XV.var 2 rfl)
    · skip
      exact XB.nilT rfl (wk [])
def N.cost (master : (List Int)) (row : (List Int)) (price : Int) (told : (List Int)) : Res (Option Int) :=
  (N.check_laid master row price) >>= fun τ1 => (if (!decide ((lenL told) = (lenL row))) then .ok true else ((lcR (fun ξ5 => .ok true) (fun ξ5 => (if decide ((0 : Int) ≤ ξ5) then (.ok (decide (ξ5 < (lenL master)))) else .ok false) >>= fun τ6 => .ok τ6) told) >>= fun τ7 => .ok (!(τ7.all id)))) >>= fun τ8 => (if τ8 then (.ok none) else
  ((lcR (fun ξ11 => .ok true) (fun ξ11 => .ok (decide (ξ11.1 < ξ11.2))) (told.zip (cutL told (some (1 : Int)) none))) >>= fun τ12 => (if (!(τ12.all id)) then (.ok none) else
  ((getL told (-(1 : Int))) >>= fun τ15 => (getL told (0 : Int)) >>= fun τ16 => (let lost : Int := (((τ15 - τ16) + (1 : Int)) - (lenL told))
  (mulI price lost) >>= fun τ18 => (lcR (fun ξ19 => .ok true) (fun ξ19 => (getL master ξ19.2) >>= fun τ20 => .ok (absI (ξ19.1 - τ20))) (row.zip told)) >>= fun τ21 => .ok (some (τ18 + (sumI τ21))))))))
def M.cost (master : (List Int)) (row : (List Int)) (price : Int) (told : (List Int)) : Res (Option Int) :=
  (((.ok master) >>= fun x1 => (.ok row) >>= fun x2 => (.ok price) >>= fun x3 => N.check_laid x1 x2 x3) >>= fun _ => (((((.ok told) >>= fun a => Res.ok (lenL a)) >>= fun a => ((.ok row) >>= fun a => Res.ok (lenL a)) >>= fun b => .ok (!decide (a = b))) >>= fun c => if c then .ok true else ((((.ok told) >>= fun xs => lcR (fun ξ5 => (.ok true)) (fun ξ5 => ((.ok (0 : Int)) >>= fun a => (.ok ξ5) >>= fun b => if decide (a ≤ b) then ((.ok master) >>= fun a => Res.ok (lenL a)) >>= fun c => .ok (decide (b < c)) else .ok false)) xs) >>= fun a => Res.ok (a.all id)) >>= fun a => Res.ok (!a))) >>= fun b => if b then (.ok (none : (Option Int))) else ((((((.ok told) >>= fun a => ((.ok told) >>= fun a => ((.ok (1 : Int)) >>= fun z => .ok (some z)) >>= fun b => (.ok none) >>= fun c => Res.ok (cutL a b c)) >>= fun b => .ok (a.zip b)) >>= fun xs => lcR (fun ξ11 => (.ok true)) (fun ξ11 => ((.ok ξ11.1) >>= fun a => (.ok ξ11.2) >>= fun b => .ok (decide (a < b)))) xs) >>= fun a => Res.ok (a.all id)) >>= fun a => Res.ok (!a)) >>= fun b => if b then (.ok (none : (Option Int))) else ((((((.ok told) >>= fun a => ((.ok (1 : Int)) >>= fun a => Res.ok (-a)) >>= fun b => getL a b) >>= fun a => ((.ok told) >>= fun a => (.ok (0 : Int)) >>= fun b => getL a b) >>= fun b => Res.ok (a - b)) >>= fun a => (.ok (1 : Int)) >>= fun b => Res.ok (a + b)) >>= fun a => ((.ok told) >>= fun a => Res.ok (lenL a)) >>= fun b => Res.ok (a - b)) >>= fun lost => ((((.ok price) >>= fun a => (.ok lost) >>= fun b => mulI a b) >>= fun a => ((((.ok row) >>= fun a => (.ok told) >>= fun b => .ok (a.zip b)) >>= fun xs => lcR (fun ξ19 => (.ok true)) (fun ξ19 => (((.ok ξ19.1) >>= fun a => ((.ok master) >>= fun a => (.ok ξ19.2) >>= fun b => getL a b) >>= fun b => Res.ok (a - b)) >>= fun a => Res.ok (absI a))) xs) >>= fun a => Res.ok (sumI a)) >>= fun b => Res.ok (a + b)) >>= fun z => .ok (some z))))))
theorem M.cost_eq : @M.cost = @N.cost := by
  funext master row price told
  delta M.cost
  delta N.cost
  simp only [Res.bind_assoc', Res.ok_bind2, Res.bind_ok] <;> rfl
theorem sc_cost : FnScope ["master", "row", "price", "told", "there", "one", "two", "lost", "width"] ["master", "row", "price", "told"] (defScope s_cost) := ⟨rfl, rfl, rfl, by decide +kernel, rfl, by decide +kernel, by decide +kernel⟩
theorem ok_cost {P : Program} {w : World} {K : PySem.W.Frag} {mg : Str → Option Value} {base : Heap} (bi : Bi P K mg) {fa : Addr} {fd : FuncData} (F : FunD K "cost" "cost" (defArgs s_cost) (defBody s_cost) (defScope s_cost) [] [] fa fd) {f_check_laid : Addr} {fd_check_laid : FuncData} (C_check_laid : FnC K mg "check_laid" f_check_laid fd_check_laid ["master", "row", "price"]) (G_check_laid : FnV P w K mg base 6 f_check_laid fd_check_laid ["master", "row", "price"] (Rn3 N.check_laid)) :
    FnV P w K mg base 7 fa fd ["master", "row", "price", "told"] (Rn4 N.cost) := by
  rw [← M.cost_eq]
  refine fn4 F sc_cost rfl (by decide) fun cdv A outer s H E gr master row price told => ?_
  have tk : Takes (defX P w K mg base ["master", "row", "price", "told", "there", "one", "two", "lost", "width"] "cost" (defScope s_cost) fa cdv A outer s H E) (defW E) := takes_of rfl rfl rfl rfl
  have hp : PassesOwn (model (defX P w K mg base ["master", "row", "price", "told", "there", "one", "two", "lost", "width"] "cost" (defScope s_cost) fa cdv A outer s H E).prog (defX P w K mg base ["master", "row", "price", "told", "there", "one", "two", "lost", "width"] "cost" (defScope s_cost) fa cdv A outer s H E).w) (defX P w K mg base ["master", "row", "price", "told", "there", "one", "two", "lost", "width"] "cost" (defScope s_cost) fa cdv A outer s H E).A (defX P w K mg base ["master", "row", "price", "told", "there", "one", "two", "lost", "width"] "cost" (defScope s_cost) fa cdv A outer s H E).env (defX P w K mg base ["master", "row", "price", "told", "there", "one", "two", "lost", "width"] "cost" (defScope s_cost) fa cdv A outer s H E).xe := passes_of rfl
  have hN := sc_cost.nd
  unfold M.cost
  refine XB.expr ?ex ?_
  case ex => exact (XV.fn3 (G_check_laid.mono (by decide)) C_check_laid gr tk (XV.var 0 rfl) (XV.var 1 rfl) (XV.var 2 rfl))
  refine XB.ifR ?tst ?_ ?_ (by intro t h ρ2 h2; cases h2)
  case tst => exact (XT.pw (XT.or (XT.cmp (c_ne (α := Int) gr.r) (XV.w (XV.callB b_len (by rfl) bi.b_len (by rfl) (XV.w (XV.var 3 rfl)))) (XV.w (XV.callB b_len (by rfl) bi.b_len (by rfl) (XV.w (XV.var 1 rfl))))) (XT.or1 (XT.not (XT.val (XV.callB (b_all rfl) (by rfl) bi.b_all (by rfl) (XF.w (XF.lc [("there", 4)] [0, 1, 2, 3] [(0, SV.sh (toD master)), (1, SV.sh (toD row)), (2, SV.sh (toD price)), (3, SV.sh (toD told))] (fun ξ5 => [(4, SV.sh (toD ξ5)), (0, SV.sh (toD master)), (1, SV.sh (toD row)), (2, SV.sh (toD price)), (3, SV.sh (toD told))]) rfl hN (XI.list (XV.var 3 rfl)) (by rfl) (fun ξ5 _ _ _ _ _ => (XG.name 4 [0, 1, 2, 3] hN)) (fun ξ5 _ _ _ _ _ => XTs.nil) (fun ξ5 _ _ _ _ _ => (XV.chain c_le c_lt (XV.w XV.int) (XV.w (XV.var 0 rfl)) (XV.w (XV.callB b_len (by rfl) bi.b_len (by rfl) (XV.w (XV.var 1 rfl))))))))))))))
  · skip
    exact XB.ret XV.noneC
  · skip
    refine XB.ifR ?tst ?_ ?_ (by intro t h ρ2 h2; cases h2)
    case tst => exact (XT.not (XT.val (XV.callB (b_all rfl) (by rfl) bi.b_all (by rfl) (XF.w (XF.lc [("one", 5), ("two", 6)] [0, 1, 2, 3] [(0, SV.sh (toD master)), (1, SV.sh (toD row)), (2, SV.sh (toD price)), (3, SV.sh (toD told))] (fun ξ11 => [(6, SV.sh (toD ξ11.2)), (5, SV.sh (toD ξ11.1)), (0, SV.sh (toD master)), (1, SV.sh (toD row)), (2, SV.sh (toD price)), (3, SV.sh (toD told))]) rfl hN (XI.zip bi.b_zip (XV.var 3 rfl) (XF.v (XF.slice (XV.w (XV.var 3 rfl)) (XO.some XV.int) XO.none))) (by rfl) (fun ξ11 _ _ _ _ _ => (XG.tup rfl (XGs.cons (ρ1 := [(5, SV.sh (toD ξ11.1)), (0, SV.sh (toD master)), (1, SV.sh (toD row)), (2, SV.sh (toD price)), (3, SV.sh (toD told))]) (XG.name 5 [0, 1, 2, 3] hN) (XGs.cons (ρ1 := [(6, SV.sh (toD ξ11.2)), (5, SV.sh (toD ξ11.1)), (0, SV.sh (toD master)), (1, SV.sh (toD row)), (2, SV.sh (toD price)), (3, SV.sh (toD told))]) (XG.name 6 [0, 1, 2, 3, 4] hN) XGs.nil)))) (fun ξ11 _ _ _ _ _ => XTs.nil) (fun ξ11 _ _ _ _ _ => (XV.cmp c_lt (XV.w (XV.var 1 rfl)) (XV.w (XV.var 0 rfl)))))))))
    · skip
      exact XB.ret XV.noneC
    · skip
      refine XB.asg 7 [0, 1, 2, 3] (fun lost => [(7, SV.sh (toD lost)), (0, SV.sh (toD master)), (1, SV.sh (toD row)), (2, SV.sh (toD price)), (3, SV.sh (toD told))]) hN ?ex ?_
      case ex => exact (XV.bin o_sub (XV.bin o_add (XV.bin o_sub (XV.idx (XV.w (XV.var 3 rfl)) (XV.neg XV.int)) (XV.idx (XV.w (XV.var 3 rfl)) XV.int)) XV.int) (XV.callB b_len (by rfl) bi.b_len (by rfl) (XV.w (XV.var 3 rfl))))
      intro lost
      exact XB.ret (XV.someC (XV.bin o_add (XV.bin o_mul (XV.var 3 rfl) (XV.var 0 rfl)) (XV.callB (b_sum rfl) (by rfl) bi.b_sum (by rfl) (XF.w (XF.lc [("width", 8), ("there", 4)] [0, 1, 2, 3, 4] [(7, SV.sh (toD lost)), (0, SV.sh (toD master)), (1, SV.sh (toD row)), (2, SV.sh (toD price)), (3, SV.sh (toD told))] (fun ξ19 => [(4, SV.sh (toD ξ19.2)), (8, SV.sh (toD ξ19.1)), (7, SV.sh (toD lost)), (0, SV.sh (toD master)), (1, SV.sh (toD row)), (2, SV.sh (toD price)), (3, SV.sh (toD told))]) rfl hN (XI.zip bi.b_zip (XV.var 2 rfl) (XV.var 4 rfl)) (by rfl) (fun ξ19 _ _ _ _ _ => (XG.tup rfl (XGs.cons (ρ1 := [(8, SV.sh (toD ξ19.1)), (7, SV.sh (toD lost)), (0, SV.sh (toD master)), (1, SV.sh (toD row)), (2, SV.sh (toD price)), (3, SV.sh (toD told))]) (XG.name 8 [0, 1, 2, 3, 4] hN) (XGs.cons (ρ1 := [(4, SV.sh (toD ξ19.2)), (8, SV.sh (toD ξ19.1)), (7, SV.sh (toD lost)), (0, SV.sh (toD master)), (1, SV.sh (toD row)), (2, SV.sh (toD price)), (3, SV.sh (toD told))]) (XG.name 4 [0, 1, 2, 3, 4, 5] hN) XGs.nil)))) (fun ξ19 _ _ _ _ _ => XTs.nil) (fun ξ19 _ _ _ _ _ => (XV.callB b_abs (by rfl) bi.b_abs (by rfl) (XV.w (XV.bin o_sub (XV.var 1 rfl) (XV.idx (XV.w (XV.var 3 rfl)) (XV.var 0 rfl)))))))))))
def N.best_behind_l1 (later : (List (Option (Int × Int)))) (there : Int) (own : Int) (price : Int) : ((List (Int × Int))) → Int → Res ((List (Int × Int))) := fun σ2 ξ3 =>
  (getL later ξ3) >>= fun τ4 => (if (!decide (τ4 = none)) then ((mulI price ((ξ3 - there) - (1 : Int))) >>= fun τ6 => (getL later ξ3) >>= fun τ7 => (unO τ7) >>= fun τ8 => (getL later ξ3) >>= fun τ9 => (unO τ9) >>= fun τ10 => (pushL σ2 (((own + τ6) + τ8.1), τ10.2)) >>= fun rows => .ok rows) else
  (.ok σ2)) >>= fun σ11 => .ok σ11
def N.best_behind (later : (List (Option (Int × Int)))) (there : Int) (own : Int) (price : Int) : Res (Option (Int × Int)) :=
  (let rows : (List (Int × Int)) := ([] : (List (Int × Int)))
  (rangeR (there + (1 : Int)) (lenL later)) >>= fun τ1 => (foldR (N.best_behind_l1 later there own price) τ1 rows) >>= fun σ12 => (if (decide ((lenL σ12) = (0 : Int))) then (.ok none) else
  ((lcR (fun ξ13 => .ok true) (fun ξ13 => .ok ξ13.1) σ12) >>= fun τ14 => (minL τ14) >>= fun least => (lcR (fun ξ16 => .ok (decide (ξ16.1 = least))) (fun ξ16 => .ok ξ16.2) σ12) >>= fun τ17 => .ok (some (least, (sumI τ17))))))
def M.best_behind (later : (List (Option (Int × Int)))) (there : Int) (own : Int) (price : Int) : Res (Option (Int × Int)) :=
  ((.ok ([] : (List (Int × Int)))) >>= fun rows => ((((.ok there) >>= fun a => (.ok (1 : Int)) >>= fun b => Res.ok (a + b)) >>= fun a => ((.ok later) >>= fun a => Res.ok (lenL a)) >>= fun b => rangeR a b) >>= fun xs => foldR (fun σ2 ξ3 => ((((.ok later) >>= fun a => (.ok ξ3) >>= fun b => getL a b) >>= fun a => .ok (!decide (a = none))) >>= fun b => (if b then (((((.ok own) >>= fun a => ((.ok price) >>= fun a => (((.ok ξ3) >>= fun a => (.ok there) >>= fun b => Res.ok (a - b)) >>= fun a => (.ok (1 : Int)) >>= fun b => Res.ok (a - b)) >>= fun b => mulI a b) >>= fun b => Res.ok (a + b)) >>= fun a => ((((.ok later) >>= fun a => (.ok ξ3) >>= fun b => getL a b) >>= fun z => unO z) >>= fun a => .ok a.1) >>= fun b => Res.ok (a + b)) >>= fun a => ((((.ok later) >>= fun a => (.ok ξ3) >>= fun b => getL a b) >>= fun z => unO z) >>= fun a => .ok a.2) >>= fun b => Res.ok (a, b)) >>= fun y => pushL σ2 y >>= fun rows => (.ok rows)) else (.ok σ2)) >>= fun σ11 => (.ok σ11))) xs rows >>= fun σ12 => ((((.ok σ12) >>= fun a => Res.ok (lenL a)) >>= fun a => (.ok (0 : Int)) >>= fun b => .ok (decide (a = b))) >>= fun b => if b then (.ok (none : (Option (Int × Int)))) else ((((.ok σ12) >>= fun xs => lcR (fun ξ13 => (.ok true)) (fun ξ13 => (.ok ξ13.1)) xs) >>= fun a => minL a) >>= fun least => (((.ok least) >>= fun a => (((.ok σ12) >>= fun xs => lcR (fun ξ16 => ((.ok ξ16.1) >>= fun a => (.ok least) >>= fun b => .ok (decide (a = b)))) (fun ξ16 => (.ok ξ16.2)) xs) >>= fun a => Res.ok (sumI a)) >>= fun b => Res.ok (a, b)) >>= fun z => .ok (some z))))))
theorem M.best_behind_eq : @M.best_behind = @N.best_behind := by
  funext later there own price
  delta M.best_behind
  delta N.best_behind
  delta N.best_behind_l1
  simp only [Res.bind_assoc', Res.ok_bind2, Res.bind_ok] <;> rfl
theorem sc_best_behind : FnScope ["later", "there", "own", "price", "rows", "next_one", "least", "number", "_", "ways"] ["later", "there", "own", "price"] (defScope s_best_behind) := ⟨rfl, rfl, rfl, by decide +kernel, rfl, by decide +kernel, by decide +kernel⟩
theorem ok_best_behind {P : Program} {w : World} {K : PySem.W.Frag} {mg : Str → Option Value} {base : Heap} (bi : Bi P K mg) {fa : Addr} {fd : FuncData} (F : FunD K "best_behind" "best_behind" (defArgs s_best_behind) (defBody s_best_behind) (defScope s_best_behind) [] [] fa fd)   :
    FnV P w K mg base 2 fa fd ["later", "there", "own", "price"] (Rn4 N.best_behind) := by
  rw [← M.best_behind_eq]
  refine fn4 F sc_best_behind rfl (by decide) fun cdv A outer s H E gr later there own price => ?_
  have tk : Takes (defX P w K mg base ["later", "there", "own", "price", "rows", "next_one", "least", "number", "_", "ways"] "best_behind" (defScope s_best_behind) fa cdv A outer s H E) (defW E) := takes_of rfl rfl rfl rfl
  have hp : PassesOwn (model (defX P w K mg base ["later", "there", "own", "price", "rows", "next_one", "least", "number", "_", "ways"] "best_behind" (defScope s_best_behind) fa cdv A outer s H E).prog (defX P w K mg base ["later", "there", "own", "price", "rows", "next_one", "least", "number", "_", "ways"] "best_behind" (defScope s_best_behind) fa cdv A outer s H E).w) (defX P w K mg base ["later", "there", "own", "price", "rows", "next_one", "least", "number", "_", "ways"] "best_behind" (defScope s_best_behind) fa cdv A outer s H E).A (defX P w K mg base ["later", "there", "own", "price", "rows", "next_one", "least", "number", "_", "ways"] "best_behind" (defScope s_best_behind) fa cdv A outer s H E).env (defX P w K mg base ["later", "there", "own", "price", "rows", "next_one", "least", "number", "_", "ways"] "best_behind" (defScope s_best_behind) fa cdv A outer s H E).xe := passes_of rfl
  have hN := sc_best_behind.nd
  unfold M.best_behind
  refine XB.asgO 4 [0, 1, 2, 3] (fun rows => [(4, SV.ow (toD rows)), (0, SV.sh (toD later)), (1, SV.sh (toD there)), (2, SV.sh (toD own)), (3, SV.sh (toD price))]) hN ?ex ?_
  case ex => exact XF.lst0
  intro rows
  refine XB.forS (fun (σ2 : (List (Int × Int))) => [(4, SV.ow (toD σ2)), (0, SV.sh (toD later)), (1, SV.sh (toD there)), (2, SV.sh (toD own)), (3, SV.sh (toD price))]) (fun (σ2 : (List (Int × Int))) (ξ3 : Int) => [(5, SV.sh (toD ξ3)), (4, SV.ow (toD σ2)), (0, SV.sh (toD later)), (1, SV.sh (toD there)), (2, SV.sh (toD own)), (3, SV.sh (toD price))]) hp rfl (XI.range2 bi.b_range (XV.bin o_add (XV.var 2 rfl) XV.int) (XV.callB b_len (by rfl) bi.b_len (by rfl) (XV.w (XV.var 1 rfl)))) (fun σ2 ξ3 => (XG.name 5 [0, 1, 2, 3, 4] hN)) ?_ (wk [0, 1, 2, 3, 4]) ?_
  · intro σ2 ξ3
    refine XB.ifN (fun (σ11 : (List (Int × Int))) => [(4, SV.ow (toD σ11)), (0, SV.sh (toD later)), (1, SV.sh (toD there)), (2, SV.sh (toD own)), (3, SV.sh (toD price))]) ?tst ?_ ?_ ?_
    case tst => exact (XT.notN (XV.w (XV.idx (XV.w (XV.var 2 rfl)) (XV.var 0 rfl))))
    · skip
      refine XB.append 1 4 [2, 3, 4, 5] (fun rows => [(4, SV.ow (toD rows)), (0, SV.sh (toD later)), (1, SV.sh (toD there)), (2, SV.sh (toD own)), (3, SV.sh (toD price))]) rfl ?ex ?_
      case ex => exact (XV.tup2 (XV.bin o_add (XV.bin o_add (XV.var 4 rfl) (XV.bin o_mul (XV.var 5 rfl) (XV.bin o_sub (XV.bin o_sub (XV.var 0 rfl) (XV.var 3 rfl)) XV.int))) (XV.item (k := 0) (fun a : (Int × Int) => a.1) (fun _ => ⟨_, rfl, rfl⟩) (XV.w (XV.unO (XV.idx (XV.w (XV.var 2 rfl)) (XV.var 0 rfl)))))) (XV.item (k := 1) (fun a : (Int × Int) => a.2) (fun _ => ⟨_, rfl, rfl⟩) (XV.w (XV.unO (XV.idx (XV.w (XV.var 2 rfl)) (XV.var 0 rfl))))))
      intro rows
      exact XB.nilT (t := rows) rfl (wk [0, 1, 2, 3, 4])
    · skip
      exact XB.nilT (t := σ2) rfl (wk [1, 2, 3, 4, 5])
    intro σ11
    exact XB.nilT (t := σ11) rfl (wk [0, 1, 2, 3, 4])
  intro σ12
  refine XB.ifR ?tst ?_ ?_ (by intro t h ρ2 h2; cases h2)
  case tst => exact (XT.cmp (c_eq (α := Int) gr.r) (XV.w (XV.callB b_len (by rfl) bi.b_len (by rfl) (XW.own 0 rfl))) (XV.w XV.int))
  · skip
    exact XB.ret XV.noneC
  · skip
    refine XB.freeze (x := σ12) 0 4 [1, 2, 3, 4] [(4, SV.sh (toD σ12)), (0, SV.sh (toD later)), (1, SV.sh (toD there)), (2, SV.sh (toD own)), (3, SV.sh (toD price))] rfl ?_
    refine XB.asg 6 [0] (fun least => [(6, SV.sh (toD least)), (4, SV.sh (toD σ12))]) hN ?ex ?_
    case ex => exact (XV.callB (b_min rfl) (by rfl) bi.b_min (by rfl) (XF.w (XF.lc [("number", 7), ("_", 8)] [0, 1, 2, 3, 4] [(4, SV.sh (toD σ12)), (0, SV.sh (toD later)), (1, SV.sh (toD there)), (2, SV.sh (toD own)), (3, SV.sh (toD price))] (fun ξ13 => [(8, SV.sh (toD ξ13.2)), (7, SV.sh (toD ξ13.1)), (4, SV.sh (toD σ12)), (0, SV.sh (toD later)), (1, SV.sh (toD there)), (2, SV.sh (toD own)), (3, SV.sh (toD price))]) rfl hN (XI.list (XV.var 0 rfl)) (by rfl) (fun ξ13 _ _ _ _ _ => (XG.tup rfl (XGs.cons (ρ1 := [(7, SV.sh (toD ξ13.1)), (4, SV.sh (toD σ12)), (0, SV.sh (toD later)), (1, SV.sh (toD there)), (2, SV.sh (toD own)), (3, SV.sh (toD price))]) (XG.name 7 [0, 1, 2, 3, 4] hN) (XGs.cons (ρ1 := [(8, SV.sh (toD ξ13.2)), (7, SV.sh (toD ξ13.1)), (4, SV.sh (toD σ12)), (0, SV.sh (toD later)), (1, SV.sh (toD there)), (2, SV.sh (toD own)), (3, SV.sh (toD price))]) (XG.name 8 [0, 1, 2, 3, 4, 5] hN) XGs.nil)))) (fun ξ13 _ _ _ _ _ => XTs.nil) (fun ξ13 _ _ _ _ _ => (XV.var 1 rfl)))))
    intro least
    exact XB.ret (XV.someC (XV.tup2 (XV.var 0 rfl) (XV.callB (b_sum rfl) (by rfl) bi.b_sum (by rfl) (XF.w (XF.lc [("number", 7), ("ways", 9)] [0, 1] [(6, SV.sh (toD least)), (4, SV.sh (toD σ12))] (fun ξ16 => [(9, SV.sh (toD ξ16.2)), (7, SV.sh (toD ξ16.1)), (6, SV.sh (toD least)), (4, SV.sh (toD σ12))]) rfl hN (XI.list (XV.var 1 rfl)) (by rfl) (fun ξ16 _ _ _ _ _ => (XG.tup rfl (XGs.cons (ρ1 := [(7, SV.sh (toD ξ16.1)), (6, SV.sh (toD least)), (4, SV.sh (toD σ12))]) (XG.name 7 [0, 1] hN) (XGs.cons (ρ1 := [(9, SV.sh (toD ξ16.2)), (7, SV.sh (toD ξ16.1)), (6, SV.sh (toD least)), (4, SV.sh (toD σ12))]) (XG.name 9 [0, 1, 2] hN) XGs.nil)))) (fun ξ16 _ _ _ _ _ => (XTs.one (XT.cmp (c_eq (α := Int) gr.r) (XV.w (XV.var 1 rfl)) (XV.w (XV.var 2 rfl))))) (fun ξ16 _ _ _ _ _ => (XV.var 0 rfl)))))))
def N.tables_of_l1 (row : (List Int)) (price : Int) (σ2 : (List (List (Option (Int × Int))))) (ξ3 : Int) : ((List (Option (Int × Int)))) → (Int × Int) → Res ((List (Option (Int × Int)))) := fun σ4 ξ5 =>
  (getL row ξ3) >>= fun τ6 => (let own : Int := (absI (τ6 - ξ5.2))
  (if (decide (ξ3 = ((lenL row) - (1 : Int)))) then ((pushL σ4 (some (own, (1 : Int)))) >>= fun here => .ok here) else
  ((getL σ2 (0 : Int)) >>= fun τ7 => (N.best_behind τ7 ξ5.1 own price) >>= fun τ8 => (pushL σ4 τ8) >>= fun here => .ok here)) >>= fun σ9 => .ok σ9)
def N.tables_of_l2 (master : (List Int)) (row : (List Int)) (price : Int) : ((List (List (Option (Int × Int))))) → Int → Res ((List (List (Option (Int × Int))))) := fun σ2 ξ3 =>
  (let here : (List (Option (Int × Int))) := ([] : (List (Option (Int × Int))))
  (foldR (N.tables_of_l1 row price σ2 ξ3) (enumL master) here) >>= fun σ10 => (mkL (σ10 :: (σ2 ++ []))) >>= fun found => .ok found)
def N.tables_of (master : (List Int)) (row : (List Int)) (price : Int) : Res (List (List (Option (Int × Int)))) :=
  (let found : (List (List (Option (Int × Int)))) := ([] : (List (List (Option (Int × Int)))))
  (downR ((lenL row) - (1 : Int)) (-(1 : Int))) >>= fun τ1 => (foldR (N.tables_of_l2 master row price) τ1 found) >>= fun σ12 => .ok σ12)
def M.tables_of (master : (List Int)) (row : (List Int)) (price : Int) : Res (List (List (Option (Int × Int)))) :=
  ((.ok ([] : (List (List (Option (Int × Int)))))) >>= fun found => (((((.ok row) >>= fun a => Res.ok (lenL a)) >>= fun a => (.ok (1 : Int)) >>= fun b => Res.ok (a - b)) >>= fun a => ((.ok (1 : Int)) >>= fun a => Res.ok (-a)) >>= fun b => downR a b) >>= fun xs => foldR (fun σ2 ξ3 => ((.ok ([] : (List (Option (Int × Int))))) >>= fun here => (((.ok master) >>= fun a => .ok (enumL a)) >>= fun xs => foldR (fun σ4 ξ5 => (((((.ok row) >>= fun a => (.ok ξ3) >>= fun b => getL a b) >>= fun a => (.ok ξ5.2) >>= fun b => Res.ok (a - b)) >>= fun a => Res.ok (absI a)) >>= fun own => (((.ok ξ3) >>= fun a => (((.ok row) >>= fun a => Res.ok (lenL a)) >>= fun a => (.ok (1 : Int)) >>= fun b => Res.ok (a - b)) >>= fun b => .ok (decide (a = b))) >>= fun b => (if b then ((((.ok own) >>= fun a => (.ok (1 : Int)) >>= fun b => Res.ok (a, b)) >>= fun z => .ok (some z)) >>= fun y => pushL σ4 y >>= fun here => (.ok here)) else ((((.ok σ2) >>= fun a => (.ok (0 : Int)) >>= fun b => getL a b) >>= fun x1 => (.ok ξ5.1) >>= fun x2 => (.ok own) >>= fun x3 => (.ok price) >>= fun x4 => N.best_behind x1 x2 x3 x4) >>= fun y => pushL σ4 y >>= fun here => (.ok here))) >>= fun σ9 => (.ok σ9)))) xs here >>= fun σ10 => ((((.ok σ10) >>= fun x => ((.ok σ2) >>= fun x => (.ok []) >>= fun xs => .ok (x ++ xs)) >>= fun xs => .ok (x :: xs)) >>= mkL) >>= fun found => (.ok found))))) xs found >>= fun σ12 => (.ok σ12)))
theorem M.tables_of_eq : @M.tables_of = @N.tables_of := by
  funext master row price
  delta M.tables_of
  delta N.tables_of
  delta N.tables_of_l2
  delta N.tables_of_l1
  simp only [Res.bind_assoc', Res.ok_bind2, Res.bind_ok] <;> rfl
theorem sc_tables_of : FnScope ["master", "row", "price", "found", "i", "here", "there", "width", "own"] ["master", "row", "price"] (defScope s_tables_of) := ⟨rfl, rfl, rfl, by decide +kernel, rfl, by decide +kernel, by decide +kernel⟩
theorem ok_tables_of {P : Program} {w : World} {K : PySem.W.Frag} {mg : Str → Option Value} {base : Heap} (bi : Bi P K mg) {fa : Addr} {fd : FuncData} (F : FunD K "tables_of" "tables_of" (defArgs s_tables_of) (defBody s_tables_of) (defScope s_tables_of) [] [] fa fd) {f_best_behind : Addr} {fd_best_behind : FuncData} (C_best_behind : FnC K mg "best_behind" f_best_behind fd_best_behind ["later", "there", "own", "price"]) (G_best_behind : FnV P w K mg base 2 f_best_behind fd_best_behind ["later", "there", "own", "price"] (Rn4 N.best_behind)) :
    FnV P w K mg base 3 fa fd ["master", "row", "price"] (Rn3 N.tables_of) := by
  rw [← M.tables_of_eq]
  refine fn3 F sc_tables_of rfl (by decide) fun cdv A outer s H E gr master row price => ?_
  have tk : Takes (defX P w K mg base ["master", "row", "price", "found", "i", "here", "there", "width", "own"] "tables_of" (defScope s_tables_of) fa cdv A outer s H E) (defW E) := takes_of rfl rfl rfl rfl
  have hp : PassesOwn (model (defX P w K mg base ["master", "row", "price", "found", "i", "here", "there", "width", "own"] "tables_of" (defScope s_tables_of) fa cdv A outer s H E).prog (defX P w K mg base ["master", "row", "price", "found", "i", "here", "there", "width", "own"] "tables_of" (defScope s_tables_of) fa cdv A outer s H E).w) (defX P w K mg base ["master", "row", "price", "found", "i", "here", "there", "width", "own"] "tables_of" (defScope s_tables_of) fa cdv A outer s H E).A (defX P w K mg base ["master", "row", "price", "found", "i", "here", "there", "width", "own"] "tables_of" (defScope s_tables_of) fa cdv A outer s H E).env (defX P w K mg base ["master", "row", "price", "found", "i", "here", "there", "width", "own"] "tables_of" (defScope s_tables_of) fa cdv A outer s H E).xe := passes_of rfl
  have hN := sc_tables_of.nd
  unfold M.tables_of
  refine XB.asg 3 [0, 1, 2] (fun found => [(3, SV.sh (toD found)), (0, SV.sh (toD master)), (1, SV.sh (toD row)), (2, SV.sh (toD price))]) hN ?ex ?_
  case ex => exact (XF.v XF.lst0)
  intro found
  refine XB.forS (fun (σ2 : (List (List (Option (Int × Int))))) => [(3, SV.sh (toD σ2)), (0, SV.sh (toD master)), (1, SV.sh (toD row)), (2, SV.sh (toD price))]) (fun (σ2 : (List (List (Option (Int × Int))))) (ξ3 : Int) => [(4, SV.sh (toD ξ3)), (3, SV.sh (toD σ2)), (0, SV.sh (toD master)), (1, SV.sh (toD row)), (2, SV.sh (toD price))]) hp rfl (XI.rangeD bi.b_range (XV.bin o_sub (XV.callB b_len (by rfl) bi.b_len (by rfl) (XV.w (XV.var 2 rfl))) XV.int) (XV.neg XV.int) (XV.neg XV.int) rfl) (fun σ2 ξ3 => (XG.name 4 [0, 1, 2, 3] hN)) ?_ (wk [0, 1, 2, 3]) ?_
  · intro σ2 ξ3
    refine XB.asgO 5 [0, 1, 2, 3, 4] (fun here => [(5, SV.ow (toD here)), (4, SV.sh (toD ξ3)), (3, SV.sh (toD σ2)), (0, SV.sh (toD master)), (1, SV.sh (toD row)), (2, SV.sh (toD price))]) hN ?ex ?_
    case ex => exact XF.lst0
    intro here
    refine XB.forS (fun (σ4 : (List (Option (Int × Int)))) => [(5, SV.ow (toD σ4)), (4, SV.sh (toD ξ3)), (3, SV.sh (toD σ2)), (0, SV.sh (toD master)), (1, SV.sh (toD row)), (2, SV.sh (toD price))]) (fun (σ4 : (List (Option (Int × Int)))) (ξ5 : (Int × Int)) => [(7, SV.sh (toD ξ5.2)), (6, SV.sh (toD ξ5.1)), (5, SV.ow (toD σ4)), (4, SV.sh (toD ξ3)), (3, SV.sh (toD σ2)), (0, SV.sh (toD master)), (1, SV.sh (toD row)), (2, SV.sh (toD price))]) hp rfl (XI.enum bi.b_enumerate (XV.var 3 rfl)) (fun σ4 ξ5 => (XG.tup rfl (XGs.cons (ρ1 := [(6, SV.sh (toD ξ5.1)), (5, SV.ow (toD σ4)), (4, SV.sh (toD ξ3)), (3, SV.sh (toD σ2)), (0, SV.sh (toD master)), (1, SV.sh (toD row)), (2, SV.sh (toD price))]) (XG.name 6 [0, 1, 2, 3, 4, 5] hN) (XGs.cons (ρ1 := [(7, SV.sh (toD ξ5.2)), (6, SV.sh (toD ξ5.1)), (5, SV.ow (toD σ4)), (4, SV.sh (toD ξ3)), (3, SV.sh (toD σ2)), (0, SV.sh (toD master)), (1, SV.sh (toD row)), (2, SV.sh (toD price))]) (XG.name 7 [0, 1, 2, 3, 4, 5, 6] hN) XGs.nil)))) ?_ (wk [0, 1, 2, 3, 4, 5]) ?_
    · intro σ4 ξ5
      refine XB.asg 8 [1, 2, 3, 4, 5, 6, 7] (fun own => [(8, SV.sh (toD own)), (6, SV.sh (toD ξ5.1)), (5, SV.ow (toD σ4)), (4, SV.sh (toD ξ3)), (3, SV.sh (toD σ2)), (0, SV.sh (toD master)), (1, SV.sh (toD row)), (2, SV.sh (toD price))]) hN ?ex ?_
      case ex => exact (XV.callB b_abs (by rfl) bi.b_abs (by rfl) (XV.w (XV.bin o_sub (XV.idx (XV.w (XV.var 6 rfl)) (XV.var 3 rfl)) (XV.var 0 rfl))))
      intro own
      refine XB.ifN (fun (σ9 : (List (Option (Int × Int)))) => [(5, SV.ow (toD σ9)), (4, SV.sh (toD ξ3)), (3, SV.sh (toD σ2)), (0, SV.sh (toD master)), (1, SV.sh (toD row)), (2, SV.sh (toD price))]) ?tst ?_ ?_ ?_
      case tst => exact (XT.cmp (c_eq (α := Int) gr.r) (XV.w (XV.var 3 rfl)) (XV.w (XV.bin o_sub (XV.callB b_len (by rfl) bi.b_len (by rfl) (XV.w (XV.var 6 rfl))) XV.int)))
      · skip
        refine XB.append 2 5 [3, 4, 5, 6, 7] (fun here => [(5, SV.ow (toD here)), (4, SV.sh (toD ξ3)), (3, SV.sh (toD σ2)), (0, SV.sh (toD master)), (1, SV.sh (toD row)), (2, SV.sh (toD price))]) rfl ?ex ?_
        case ex => exact (XV.someC (XV.tup2 (XV.var 0 rfl) XV.int))
        intro here
        exact XB.nilT (t := here) rfl (wk [0, 1, 2, 3, 4, 5])
      · skip
        refine XB.append 2 5 [3, 4, 5, 6, 7] (fun here => [(5, SV.ow (toD here)), (4, SV.sh (toD ξ3)), (3, SV.sh (toD σ2)), (0, SV.sh (toD master)), (1, SV.sh (toD row)), (2, SV.sh (toD price))]) rfl ?ex ?_
        case ex => exact (XV.fn4 (G_best_behind.mono (by decide)) C_best_behind gr tk (XV.idx (XV.w (XV.var 4 rfl)) XV.int) (XV.var 1 rfl) (XV.var 0 rfl) (XV.var 7 rfl))
        intro here
        exact XB.nilT (t := here) rfl (wk [0, 1, 2, 3, 4, 5])
      intro σ9
      exact XB.nilT (t := σ9) rfl (wk [0, 1, 2, 3, 4, 5])
    intro σ10
    refine XB.freeze (x := σ10) 0 5 [1, 2, 3, 4, 5] [(5, SV.sh (toD σ10)), (4, SV.sh (toD ξ3)), (3, SV.sh (toD σ2)), (0, SV.sh (toD master)), (1, SV.sh (toD row)), (2, SV.sh (toD price))] rfl ?_
    refine XB.asg 3 [3, 4, 5] (fun found => [(3, SV.sh (toD found)), (0, SV.sh (toD master)), (1, SV.sh (toD row)), (2, SV.sh (toD price))]) hN ?ex ?_
    case ex => exact (XF.v (XF.lstG (XL.cons (XV.var 0 rfl) (XL.star (XV.w (XV.var 2 rfl)) XL.nil))))
    intro found
    exact XB.nilT (t := found) rfl (wk [0, 1, 2, 3])
  intro σ12
  exact XB.ret (XV.var 0 rfl)
def N.least_laying_l1 (price : Int) (tables : (List (List (Option (Int × Int))))) (ξ24 : Int) (last : Int) : ((List Int) × Int) → Int → Res (Ctl ((List Int) × Int) ((List Int) × Int)) := fun σ29 ξ30 =>
  (getL tables ξ24) >>= fun τ31 => (getL τ31 ξ30) >>= fun told => (if (!decide (told = none)) then ((unO told) >>= fun τ37 => (mulI price ((ξ30 - last) - (1 : Int))) >>= fun τ38 => .ok (decide ((τ37.1 + τ38) = σ29.2))) else .ok false) >>= fun τ39 => (if τ39 then ((pushL σ29.1 ξ30) >>= fun found => (unO told) >>= fun τ40 => (let left : Int := τ40.1
  .ok (found, left))) >>= fun o => .ok (Ctl.ex o) else
  (.ok (Ctl.nx (σ29.1, σ29.2))))
def N.least_laying_l2 (master : (List Int)) (row : (List Int)) (price : Int) (tables : (List (List (Option (Int × Int))))) : (Int × (List Int)) → Int → Res (Int × (List Int)) := fun σ23 ξ24 =>
  (getL σ23.2 (-(1 : Int))) >>= fun last => (getL row (ξ24 - (1 : Int))) >>= fun τ26 => (getL master last) >>= fun τ27 => (let left : Int := (σ23.1 - (absI (τ26 - τ27)))
  (rangeR (last + (1 : Int)) (lenL master)) >>= fun τ28 => (foldC (N.least_laying_l1 price tables ξ24 last) τ28 (σ23.2, left)) >>= fun κ42 => thenJ (fun σ41 => .ok (σ41.2, σ41.1)) κ42)
def N.least_laying (master : (List Int)) (row : (List Int)) (price : Int) : Res (Int × (List Int)) :=
  (N.check_laid master row price) >>= fun τ1 => (N.tables_of master row price) >>= fun tables => (getL tables (0 : Int)) >>= fun τ3 => (lcR (fun ξ4 => .ok (!decide (ξ4 = none))) (fun ξ4 => (unO ξ4) >>= fun τ5 => .ok τ5.1) τ3) >>= fun τ6 => (minL τ6) >>= fun least => (getL tables (0 : Int)) >>= fun τ15 => (lcR (fun ξ16 => (if (!decide (ξ16.2 = none)) then ((unO ξ16.2) >>= fun τ18 => .ok (decide (τ18.1 = least))) else .ok false) >>= fun τ19 => .ok τ19) (fun ξ16 => .ok ξ16.1) (enumL τ15)) >>= fun τ20 => (getL τ20 (0 : Int)) >>= fun τ21 => (let found : (List Int) := [τ21]
  (let left : Int := least
  (rangeR (1 : Int) (lenL row)) >>= fun τ22 => (foldR (N.least_laying_l2 master row price tables) τ22 (left, found)) >>= fun σ43 => .ok (least, σ43.2)))
def M.least_laying (master : (List Int)) (row : (List Int)) (price : Int) : Res (Int × (List Int)) :=
  (((.ok master) >>= fun x1 => (.ok row) >>= fun x2 => (.ok price) >>= fun x3 => N.check_laid x1 x2 x3) >>= fun _ => (((.ok master) >>= fun x1 => (.ok row) >>= fun x2 => (.ok price) >>= fun x3 => N.tables_of x1 x2 x3) >>= fun tables => (((((.ok tables) >>= fun a => (.ok (0 : Int)) >>= fun b => getL a b) >>= fun xs => lcR (fun ξ4 => ((.ok ξ4) >>= fun a => .ok (!decide (a = none)))) (fun ξ4 => (((.ok ξ4) >>= fun z => unO z) >>= fun a => .ok a.1)) xs) >>= fun a => minL a) >>= fun least => (((((((.ok tables) >>= fun a => (.ok (0 : Int)) >>= fun b => getL a b) >>= fun a => .ok (enumL a)) >>= fun xs => lcR (fun ξ16 => (((.ok ξ16.2) >>= fun a => .ok (!decide (a = none))) >>= fun c => if c then ((((.ok ξ16.2) >>= fun z => unO z) >>= fun a => .ok a.1) >>= fun a => (.ok least) >>= fun b => .ok (decide (a = b))) else .ok false)) (fun ξ16 => (.ok ξ16.1)) xs) >>= fun a => (.ok (0 : Int)) >>= fun b => getL a b) >>= fun a => Res.ok [a]) >>= fun found => ((.ok least) >>= fun left => (((.ok (1 : Int)) >>= fun a => ((.ok row) >>= fun a => Res.ok (lenL a)) >>= fun b => rangeR a b) >>= fun xs => foldR (fun σ23 ξ24 => (((.ok σ23.2) >>= fun a => ((.ok (1 : Int)) >>= fun a => Res.ok (-a)) >>= fun b => getL a b) >>= fun last => (((.ok σ23.1) >>= fun a => ((((.ok row) >>= fun a => ((.ok ξ24) >>= fun a => (.ok (1 : Int)) >>= fun b => Res.ok (a - b)) >>= fun b => getL a b) >>= fun a => ((.ok master) >>= fun a => (.ok last) >>= fun b => getL a b) >>= fun b => Res.ok (a - b)) >>= fun a => Res.ok (absI a)) >>= fun b => Res.ok (a - b)) >>= fun left => ((((.ok last) >>= fun a => (.ok (1 : Int)) >>= fun b => Res.ok (a + b)) >>= fun a => ((.ok master) >>= fun a => Res.ok (lenL a)) >>= fun b => rangeR a b) >>= fun xs => foldC (fun σ29 ξ30 => ((((.ok tables) >>= fun a => (.ok ξ24) >>= fun b => getL a b) >>= fun a => (.ok ξ30) >>= fun b => getL a b) >>= fun told => ((((.ok told) >>= fun a => .ok (!decide (a = none))) >>= fun c => if c then (((((.ok told) >>= fun z => unO z) >>= fun a => .ok a.1) >>= fun a => ((.ok price) >>= fun a => (((.ok ξ30) >>= fun a => (.ok last) >>= fun b => Res.ok (a - b)) >>= fun a => (.ok (1 : Int)) >>= fun b => Res.ok (a - b)) >>= fun b => mulI a b) >>= fun b => Res.ok (a + b)) >>= fun a => (.ok σ29.2) >>= fun b => .ok (decide (a = b))) else .ok false) >>= fun b => if b then ((.ok ξ30) >>= fun y => pushL σ29.1 y >>= fun found => ((((.ok told) >>= fun z => unO z) >>= fun a => .ok a.1) >>= fun left => (.ok (found, left)))) >>= fun o => .ok (Ctl.ex o) else (.ok (Ctl.nx (σ29.1, σ29.2)))))) xs (σ23.2, left) >>= fun t => thenJ (fun σ41 => (.ok (σ41.2, σ41.1))) t)))) xs (left, found) >>= fun σ43 => ((.ok least) >>= fun a => (.ok σ43.2) >>= fun b => Res.ok (a, b))))))))
theorem M.least_laying_eq : @M.least_laying = @N.least_laying := by
  funext master row price
  delta M.least_laying
  delta N.least_laying
  delta N.least_laying_l2
  delta N.least_laying_l1
  simp only [Res.bind_assoc', Res.ok_bind2, Res.bind_ok] <;> rfl
theorem sc_least_laying : FnScope ["master", "row", "price", "tables", "least", "told", "found", "there", "left", "i", "last"] ["master", "row", "price"] (defScope s_least_laying) := ⟨rfl, rfl, rfl, by decide +kernel, rfl, by decide +kernel, by decide +kernel⟩
theorem ok_least_laying {P : Program} {w : World} {K : PySem.W.Frag} {mg : Str → Option Value} {base : Heap} (bi : Bi P K mg) {fa : Addr} {fd : FuncData} (F : FunD K "least_laying" "least_laying" (defArgs s_least_laying) (defBody s_least_laying) (defScope s_least_laying) [] [] fa fd) {f_check_laid : Addr} {fd_check_laid : FuncData} (C_check_laid : FnC K mg "check_laid" f_check_laid fd_check_laid ["master", "row", "price"]) {f_tables_of : Addr} {fd_tables_of : FuncData} (C_tables_of : FnC K mg "tables_of" f_tables_of fd_tables_of ["master", "row", "price"]) (G_check_laid : FnV P w K mg base 6 f_check_laid fd_check_laid ["master", "row", "price"] (Rn3 N.check_laid)) (G_tables_of : FnV P w K mg base 3 f_tables_of fd_tables_of ["master", "row", "price"] (Rn3 N.tables_of)) :
    FnV P w K mg base 7 fa fd ["master", "row", "price"] (Rn3 N.least_laying) := by
  rw [← M.least_laying_eq]
  refine fn3 F sc_least_laying rfl (by decide) fun cdv A outer s H E gr master row price => ?_
  have tk : Takes (defX P w K mg base ["master", "row", "price", "tables", "least", "told", "found", "there", "left", "i", "last"] "least_laying" (defScope s_least_laying) fa cdv A outer s H E) (defW E) := takes_of rfl rfl rfl rfl
  have hp : PassesOwn (model (defX P w K mg base ["master", "row", "price", "tables", "least", "told", "found", "there", "left", "i", "last"] "least_laying" (defScope s_least_laying) fa cdv A outer s H E).prog (defX P w K mg base ["master", "row", "price", "tables", "least", "told", "found", "there", "left", "i", "last"] "least_laying" (defScope s_least_laying) fa cdv A outer s H E).w) (defX P w K mg base ["master", "row", "price", "tables", "least", "told", "found", "there", "left", "i", "last"] "least_laying" (defScope s_least_laying) fa cdv A outer s H E).A (defX P w K mg base ["master", "row", "price", "tables", "least", "told", "found", "there", "left", "i", "last"] "least_laying" (defScope s_least_laying) fa cdv A outer s H E).env (defX P w K mg base ["master", "row", "price", "tables", "least", "told", "found", "there", "left", "i", "last"] "least_laying" (defScope s_least_laying) fa cdv A outer s H E).xe := passes_of rfl
  have hN := sc_least_laying.nd
  unfold M.least_laying
  refine XB.expr ?ex ?_
  case ex => exact (XV.fn3 (G_check_laid.mono (by decide)) C_check_laid gr tk (XV.var 0 rfl) (XV.var 1 rfl) (XV.var 2 rfl))
  refine XB.asg 3 [0, 1, 2] (fun tables => [(3, SV.sh (toD tables)), (0, SV.sh (toD master)), (1, SV.sh (toD row)), (2, SV.sh (toD price))]) hN ?ex ?_
  case ex => exact (XV.fn3 (G_tables_of.mono (by decide)) C_tables_of gr tk (XV.var 0 rfl) (XV.var 1 rfl) (XV.var 2 rfl))
  intro tables
  refine XB.asg 4 [0, 1, 2, 3] (fun least => [(4, SV.sh (toD least)), (3, SV.sh (toD tables)), (0, SV.sh (toD master)), (1, SV.sh (toD row)), (2, SV.sh (toD price))]) hN ?ex ?_
  case ex => exact (XV.callB (b_min rfl) (by rfl) bi.b_min (by rfl) (XF.w (XF.lc [("told", 5)] [0, 1, 2, 3] [(3, SV.sh (toD tables)), (0, SV.sh (toD master)), (1, SV.sh (toD row)), (2, SV.sh (toD price))] (fun ξ4 => [(5, SV.sh (toD ξ4)), (3, SV.sh (toD tables)), (0, SV.sh (toD master)), (1, SV.sh (toD row)), (2, SV.sh (toD price))]) rfl hN (XI.list (XV.idx (XV.w (XV.var 0 rfl)) XV.int)) (by rfl) (fun ξ4 _ _ _ _ _ => (XG.name 5 [0, 1, 2, 3] hN)) (fun ξ4 _ _ _ _ _ => (XTs.one (XT.notN (XV.w (XV.var 0 rfl))))) (fun ξ4 _ _ _ _ _ => (XV.item (k := 0) (fun a : (Int × Int) => a.1) (fun _ => ⟨_, rfl, rfl⟩) (XV.w (XV.unO (XV.var 0 rfl))))))))
  intro least
  refine XB.asgO 6 [0, 1, 2, 3, 4] (fun found => [(6, SV.ow (toD found)), (4, SV.sh (toD least)), (3, SV.sh (toD tables)), (0, SV.sh (toD master)), (1, SV.sh (toD row)), (2, SV.sh (toD price))]) hN ?ex ?_
  case ex => exact (XF.lst1 (XV.idx (XF.w (XF.lc [("there", 7), ("told", 5)] [0, 1, 2, 3, 4] [(4, SV.sh (toD least)), (3, SV.sh (toD tables)), (0, SV.sh (toD master)), (1, SV.sh (toD row)), (2, SV.sh (toD price))] (fun ξ16 => [(5, SV.sh (toD ξ16.2)), (7, SV.sh (toD ξ16.1)), (4, SV.sh (toD least)), (3, SV.sh (toD tables)), (0, SV.sh (toD master)), (1, SV.sh (toD row)), (2, SV.sh (toD price))]) rfl hN (XI.enum bi.b_enumerate (XV.idx (XV.w (XV.var 1 rfl)) XV.int)) (by rfl) (fun ξ16 _ _ _ _ _ => (XG.tup rfl (XGs.cons (ρ1 := [(7, SV.sh (toD ξ16.1)), (4, SV.sh (toD least)), (3, SV.sh (toD tables)), (0, SV.sh (toD master)), (1, SV.sh (toD row)), (2, SV.sh (toD price))]) (XG.name 7 [0, 1, 2, 3, 4] hN) (XGs.cons (ρ1 := [(5, SV.sh (toD ξ16.2)), (7, SV.sh (toD ξ16.1)), (4, SV.sh (toD least)), (3, SV.sh (toD tables)), (0, SV.sh (toD master)), (1, SV.sh (toD row)), (2, SV.sh (toD price))]) (XG.name 5 [0, 1, 2, 3, 4, 5] hN) XGs.nil)))) (fun ξ16 _ _ _ _ _ => (XTs.one (XT.pw (XT.and (XT.notN (XV.w (XV.var 0 rfl))) (XT.and1 (XT.cmp (c_eq (α := Int) gr.r) (XV.w (XV.item (k := 0) (fun a : (Int × Int) => a.1) (fun _ => ⟨_, rfl, rfl⟩) (XV.w (XV.unO (XV.var 0 rfl))))) (XV.w (XV.var 2 rfl)))))))) (fun ξ16 _ _ _ _ _ => (XV.var 1 rfl)))) XV.int))
  intro found
  refine XB.asg 8 [0, 1, 2, 3, 4, 5] (fun left => [(8, SV.sh (toD left)), (6, SV.ow (toD found)), (4, SV.sh (toD least)), (3, SV.sh (toD tables)), (0, SV.sh (toD master)), (1, SV.sh (toD row)), (2, SV.sh (toD price))]) hN ?ex ?_
  case ex => exact (XV.var 1 rfl)
  intro left
  refine XB.forS (fun (σ23 : Int × (List Int)) => [(8, SV.sh (toD σ23.1)), (6, SV.ow (toD σ23.2)), (4, SV.sh (toD least)), (3, SV.sh (toD tables)), (0, SV.sh (toD master)), (1, SV.sh (toD row)), (2, SV.sh (toD price))]) (fun (σ23 : Int × (List Int)) (ξ24 : Int) => [(9, SV.sh (toD ξ24)), (8, SV.sh (toD σ23.1)), (6, SV.ow (toD σ23.2)), (4, SV.sh (toD least)), (3, SV.sh (toD tables)), (0, SV.sh (toD master)), (1, SV.sh (toD row)), (2, SV.sh (toD price))]) hp rfl (XI.range2 bi.b_range XV.int (XV.callB b_len (by rfl) bi.b_len (by rfl) (XV.w (XV.var 5 rfl)))) (fun σ23 ξ24 => (XG.name 9 [0, 1, 2, 3, 4, 5, 6] hN)) ?_ (wk [0, 1, 2, 3, 4, 5, 6]) ?_
  · intro σ23 ξ24
    refine XB.asg 10 [0, 1, 2, 3, 4, 5, 6, 7] (fun last => [(10, SV.sh (toD last)), (9, SV.sh (toD ξ24)), (8, SV.sh (toD σ23.1)), (6, SV.ow (toD σ23.2)), (4, SV.sh (toD least)), (3, SV.sh (toD tables)), (0, SV.sh (toD master)), (1, SV.sh (toD row)), (2, SV.sh (toD price))]) hN ?ex ?_
    case ex => exact (XV.idx (XW.own 2 rfl) (XV.neg XV.int))
    intro last
    refine XB.asg 8 [0, 1, 3, 4, 5, 6, 7, 8] (fun left => [(8, SV.sh (toD left)), (10, SV.sh (toD last)), (9, SV.sh (toD ξ24)), (6, SV.ow (toD σ23.2)), (4, SV.sh (toD least)), (3, SV.sh (toD tables)), (0, SV.sh (toD master)), (1, SV.sh (toD row)), (2, SV.sh (toD price))]) hN ?ex ?_
    case ex => exact (XV.bin o_sub (XV.var 2 rfl) (XV.callB b_abs (by rfl) bi.b_abs (by rfl) (XV.w (XV.bin o_sub (XV.idx (XV.w (XV.var 7 rfl)) (XV.bin o_sub (XV.var 1 rfl) XV.int)) (XV.idx (XV.w (XV.var 6 rfl)) (XV.var 0 rfl))))))
    intro left
    refine XB.forB (fun (σ29 : (List Int) × Int) => [(6, SV.ow (toD σ29.1)), (8, SV.sh (toD σ29.2)), (10, SV.sh (toD last)), (9, SV.sh (toD ξ24)), (4, SV.sh (toD least)), (3, SV.sh (toD tables)), (0, SV.sh (toD master)), (1, SV.sh (toD row)), (2, SV.sh (toD price))]) (fun (σ29 : (List Int) × Int) (ξ30 : Int) => [(7, SV.sh (toD ξ30)), (6, SV.ow (toD σ29.1)), (8, SV.sh (toD σ29.2)), (10, SV.sh (toD last)), (9, SV.sh (toD ξ24)), (4, SV.sh (toD least)), (3, SV.sh (toD tables)), (0, SV.sh (toD master)), (1, SV.sh (toD row)), (2, SV.sh (toD price))]) hp rfl (XI.range2 bi.b_range (XV.bin o_add (XV.var 1 rfl) XV.int) (XV.callB b_len (by rfl) bi.b_len (by rfl) (XV.w (XV.var 6 rfl)))) (fun σ29 ξ30 => (XG.name 7 [0, 1, 2, 3, 4, 5, 6, 7, 8] hN)) ?_ (wk [3, 0, 1, 2, 4, 5, 6, 7, 8]) ?_
    · intro σ29 ξ30
      refine XB.asg 5 [0, 1, 2, 3, 4, 5, 6, 7, 8, 9] (fun told => [(5, SV.sh (toD told)), (7, SV.sh (toD ξ30)), (6, SV.ow (toD σ29.1)), (8, SV.sh (toD σ29.2)), (10, SV.sh (toD last)), (9, SV.sh (toD ξ24)), (4, SV.sh (toD least)), (3, SV.sh (toD tables)), (0, SV.sh (toD master)), (1, SV.sh (toD row)), (2, SV.sh (toD price))]) hN ?ex ?_
      case ex => exact (XV.idx (XV.w (XV.idx (XV.w (XV.var 6 rfl)) (XV.var 4 rfl))) (XV.var 0 rfl))
      intro told
      refine XB.ifE (ω := fun (σ29 : (List Int) × Int) => Fi.bk ([(6, SV.ow (toD σ29.1)), (8, SV.sh (toD σ29.2)), (10, SV.sh (toD last)), (9, SV.sh (toD ξ24)), (4, SV.sh (toD least)), (3, SV.sh (toD tables)), (0, SV.sh (toD master)), (1, SV.sh (toD row)), (2, SV.sh (toD price))])) (fun o => Ctl.ex o) (fun _ => rfl) (fun _ _ h => by cases h) ?tst ?_ ?_
      case tst => exact (XT.pw (XT.and (XT.notN (XV.w (XV.var 0 rfl))) (XT.and1 (XT.cmp (c_eq (α := Int) gr.r) (XV.w (XV.bin o_add (XV.item (k := 0) (fun a : (Int × Int) => a.1) (fun _ => ⟨_, rfl, rfl⟩) (XV.w (XV.unO (XV.var 0 rfl)))) (XV.bin o_mul (XV.var 10 rfl) (XV.bin o_sub (XV.bin o_sub (XV.var 1 rfl) (XV.var 4 rfl)) XV.int)))) (XV.w (XV.var 3 rfl))))))
      · skip
        refine XB.append 2 6 [0, 4, 5, 6, 7, 8, 9, 10] (fun found => [(6, SV.ow (toD found)), (5, SV.sh (toD told)), (10, SV.sh (toD last)), (9, SV.sh (toD ξ24)), (4, SV.sh (toD least)), (3, SV.sh (toD tables)), (0, SV.sh (toD master)), (1, SV.sh (toD row)), (2, SV.sh (toD price))]) rfl ?ex ?_
        case ex => exact (XV.var 1 rfl)
        intro found
        refine XB.asg 8 [0, 2, 3, 4, 5, 6, 7, 8] (fun left => [(8, SV.sh (toD left)), (6, SV.ow (toD found)), (10, SV.sh (toD last)), (9, SV.sh (toD ξ24)), (4, SV.sh (toD least)), (3, SV.sh (toD tables)), (0, SV.sh (toD master)), (1, SV.sh (toD row)), (2, SV.sh (toD price))]) hN ?ex ?_
        case ex => exact (XV.item (k := 0) (fun a : (Int × Int) => a.1) (fun _ => ⟨_, rfl, rfl⟩) (XV.w (XV.unO (XV.var 1 rfl))))
        intro left
        exact XB.brk (t := (found, left)) rfl (wk [1, 0, 2, 3, 4, 5, 6, 7, 8])
      · skip
        exact XB.nilT (t := Ctl.nx (σ29.1, σ29.2)) rfl (wk [2, 3, 4, 5, 6, 7, 8, 9, 10])
    intro σ41
    exact XB.nilT (t := (σ41.2, σ41.1)) rfl (wk [1, 0, 4, 5, 6, 7, 8])
  intro σ43
  refine XB.freeze (x := σ43.2) 1 6 [0, 2, 3, 4, 5, 6] [(6, SV.sh (toD σ43.2)), (8, SV.sh (toD σ43.1)), (4, SV.sh (toD least)), (3, SV.sh (toD tables)), (0, SV.sh (toD master)), (1, SV.sh (toD row)), (2, SV.sh (toD price))] rfl ?_
  exact XB.ret (XV.tup2 (XV.var 2 rfl) (XV.var 0 rfl))
def N.count_least (master : (List Int)) (row : (List Int)) (price : Int) : Res Int :=
  (N.check_laid master row price) >>= fun τ1 => (N.tables_of master row price) >>= fun τ2 => (getL τ2 (0 : Int)) >>= fun τ3 => (lcR (fun ξ4 => .ok (!decide (ξ4 = none))) (fun ξ4 => (unO ξ4) >>= fun τ5 => .ok τ5) τ3) >>= fun first => (lcR (fun ξ7 => .ok true) (fun ξ7 => .ok ξ7.1) first) >>= fun τ8 => (minL τ8) >>= fun least => (lcR (fun ξ10 => .ok (decide (ξ10.1 = least))) (fun ξ10 => .ok ξ10.2) first) >>= fun τ11 => .ok (sumI τ11)
def M.count_least (master : (List Int)) (row : (List Int)) (price : Int) : Res Int :=
  (((.ok master) >>= fun x1 => (.ok row) >>= fun x2 => (.ok price) >>= fun x3 => N.check_laid x1 x2 x3) >>= fun _ => ((((.ok master) >>= fun x1 => (.ok row) >>= fun x2 => (.ok price) >>= fun x3 => N.tables_of x1 x2 x3) >>= fun a => (.ok (0 : Int)) >>= fun b => getL a b) >>= fun xs => lcR (fun ξ4 => ((.ok ξ4) >>= fun a => .ok (!decide (a = none)))) (fun ξ4 => ((.ok ξ4) >>= fun z => unO z)) xs >>= fun first => ((((.ok first) >>= fun xs => lcR (fun ξ7 => (.ok true)) (fun ξ7 => (.ok ξ7.1)) xs) >>= fun a => minL a) >>= fun least => (((.ok first) >>= fun xs => lcR (fun ξ10 => ((.ok ξ10.1) >>= fun a => (.ok least) >>= fun b => .ok (decide (a = b)))) (fun ξ10 => (.ok ξ10.2)) xs) >>= fun a => Res.ok (sumI a)))))
theorem M.count_least_eq : @M.count_least = @N.count_least := by
  funext master row price
  delta M.count_least
  delta N.count_least
  simp only [Res.bind_assoc', Res.ok_bind2, Res.bind_ok] <;> rfl
theorem sc_count_least : FnScope ["master", "row", "price", "first", "told", "least", "number", "_", "ways"] ["master", "row", "price"] (defScope s_count_least) := ⟨rfl, rfl, rfl, by decide +kernel, rfl, by decide +kernel, by decide +kernel⟩
theorem ok_count_least {P : Program} {w : World} {K : PySem.W.Frag} {mg : Str → Option Value} {base : Heap} (bi : Bi P K mg) {fa : Addr} {fd : FuncData} (F : FunD K "count_least" "count_least" (defArgs s_count_least) (defBody s_count_least) (defScope s_count_least) [] [] fa fd) {f_check_laid : Addr} {fd_check_laid : FuncData} (C_check_laid : FnC K mg "check_laid" f_check_laid fd_check_laid ["master", "row", "price"]) {f_tables_of : Addr} {fd_tables_of : FuncData} (C_tables_of : FnC K mg "tables_of" f_tables_of fd_tables_of ["master", "row", "price"]) (G_check_laid : FnV P w K mg base 6 f_check_laid fd_check_laid ["master", "row", "price"] (Rn3 N.check_laid)) (G_tables_of : FnV P w K mg base 3 f_tables_of fd_tables_of ["master", "row", "price"] (Rn3 N.tables_of)) :
    FnV P w K mg base 7 fa fd ["master", "row", "price"] (Rn3 N.count_least) := by
  rw [← M.count_least_eq]
  refine fn3 F sc_count_least rfl (by decide) fun cdv A outer s H E gr master row price => ?_
  have tk : Takes (defX P w K mg base ["master", "row", "price", "first", "told", "least", "number", "_", "ways"] "count_least" (defScope s_count_least) fa cdv A outer s H E) (defW E) := takes_of rfl rfl rfl rfl
  have hp : PassesOwn (model (defX P w K mg base ["master", "row", "price", "first", "told", "least", "number", "_", "ways"] "count_least" (defScope s_count_least) fa cdv A outer s H E).prog (defX P w K mg base ["master", "row", "price", "first", "told", "least", "number", "_", "ways"] "count_least" (defScope s_count_least) fa cdv A outer s H E).w) (defX P w K mg base ["master", "row", "price", "first", "told", "least", "number", "_", "ways"] "count_least" (defScope s_count_least) fa cdv A outer s H E).A (defX P w K mg base ["master", "row", "price", "first", "told", "least", "number", "_", "ways"] "count_least" (defScope s_count_least) fa cdv A outer s H E).env (defX P w K mg base ["master", "row", "price", "first", "told", "least", "number", "_", "ways"] "count_least" (defScope s_count_least) fa cdv A outer s H E).xe := passes_of rfl
  have hN := sc_count_least.nd
  unfold M.count_least
  refine XB.expr ?ex ?_
  case ex => exact (XV.fn3 (G_check_laid.mono (by decide)) C_check_laid gr tk (XV.var 0 rfl) (XV.var 1 rfl) (XV.var 2 rfl))
  refine XB.asgLc (is := [4]) 3 [("told", 4)] [0, 1, 2] [] [(0, SV.sh (toD master)), (1, SV.sh (toD row)), (2, SV.sh (toD price))] (fun ξ4 => [(4, SV.sh (toD ξ4)), (0, SV.sh (toD master)), (1, SV.sh (toD row)), (2, SV.sh (toD price))]) (fun first => [(3, SV.ow (toD first))]) rfl hN ?hi (by rfl) ?hg ?ht ?he ?_ (by rfl)
  case hi => exact (XI.list (XV.idx (XV.w (XV.fn3 (G_tables_of.mono (by decide)) C_tables_of gr tk (XV.var 0 rfl) (XV.var 1 rfl) (XV.var 2 rfl))) XV.int))
  case hg => exact (fun ξ4 _ _ _ _ _ => (XG.name 4 [0, 1, 2] hN))
  case ht => exact (fun ξ4 _ _ _ _ _ => (XTs.one (XT.notN (XV.w (XV.var 0 rfl)))))
  case he => exact (fun ξ4 _ _ _ _ _ => (XV.unO (XV.var 0 rfl)))
  intro first
  refine XB.freeze (x := first) 0 3 [] [(3, SV.sh (toD first))] rfl ?_
  refine XB.asg 5 [0] (fun least => [(5, SV.sh (toD least)), (3, SV.sh (toD first))]) hN ?ex ?_
  case ex => exact (XV.callB (b_min rfl) (by rfl) bi.b_min (by rfl) (XF.w (XF.lc [("number", 6), ("_", 7)] [0] [(3, SV.sh (toD first))] (fun ξ7 => [(7, SV.sh (toD ξ7.2)), (6, SV.sh (toD ξ7.1)), (3, SV.sh (toD first))]) rfl hN (XI.list (XV.var 0 rfl)) (by rfl) (fun ξ7 _ _ _ _ _ => (XG.tup rfl (XGs.cons (ρ1 := [(6, SV.sh (toD ξ7.1)), (3, SV.sh (toD first))]) (XG.name 6 [0] hN) (XGs.cons (ρ1 := [(7, SV.sh (toD ξ7.2)), (6, SV.sh (toD ξ7.1)), (3, SV.sh (toD first))]) (XG.name 7 [0, 1] hN) XGs.nil)))) (fun ξ7 _ _ _ _ _ => XTs.nil) (fun ξ7 _ _ _ _ _ => (XV.var 1 rfl)))))
  intro least
  exact XB.ret (XV.callB (b_sum rfl) (by rfl) bi.b_sum (by rfl) (XF.w (XF.lc [("number", 6), ("ways", 8)] [0, 1] [(5, SV.sh (toD least)), (3, SV.sh (toD first))] (fun ξ10 => [(8, SV.sh (toD ξ10.2)), (6, SV.sh (toD ξ10.1)), (5, SV.sh (toD least)), (3, SV.sh (toD first))]) rfl hN (XI.list (XV.var 1 rfl)) (by rfl) (fun ξ10 _ _ _ _ _ => (XG.tup rfl (XGs.cons (ρ1 := [(6, SV.sh (toD ξ10.1)), (5, SV.sh (toD least)), (3, SV.sh (toD first))]) (XG.name 6 [0, 1] hN) (XGs.cons (ρ1 := [(8, SV.sh (toD ξ10.2)), (6, SV.sh (toD ξ10.1)), (5, SV.sh (toD least)), (3, SV.sh (toD first))]) (XG.name 8 [0, 1, 2] hN) XGs.nil)))) (fun ξ10 _ _ _ _ _ => (XTs.one (XT.cmp (c_eq (α := Int) gr.r) (XV.w (XV.var 1 rfl)) (XV.w (XV.var 2 rfl))))) (fun ξ10 _ _ _ _ _ => (XV.var 0 rfl)))))
def N._law_draws_l1  : ((List Int) × Int) → Int → Res ((List Int) × Int) := fun σ8 ξ9 =>
  (if (decide ((0 : Int) < σ8.2)) then ((modI σ8.2 (65536 : Int)) >>= fun τ10 => (pushL σ8.1 τ10) >>= fun draws => (fdivI σ8.2 (65536 : Int)) >>= fun rest => .ok (draws, rest)) else
  (.ok (σ8.1, σ8.2))) >>= fun σ12 => .ok (σ12.1, σ12.2)
def N._law_draws_l2 (script : Scr) : ((List Int)) → Int → Res ((List Int)) := fun σ2 ξ3 =>
  (getL script.l ξ3) >>= fun τ4 => (let rest : Int := (absI τ4)
  (powI (10 : Int) (18 : Int)) >>= fun τ6 => (if (decide (τ6 ≤ rest)) then ((rangeR 0 (60 : Int)) >>= fun τ7 => (foldR (N._law_draws_l1) τ7 (σ2, rest)) >>= fun σ13 => .ok σ13.1) else
  ((mulI rest (48271 : Int)) >>= fun τ15 => (mulI (ξ3 + (1 : Int)) (69621 : Int)) >>= fun τ16 => (modI (τ15 + τ16) (2147483647 : Int)) >>= fun mixed => (mulI mixed (16807 : Int)) >>= fun τ22 => (mulI (11 : Int) ξ3) >>= fun τ23 => (modI ((τ22 + τ23) + (5 : Int)) (2147483629 : Int)) >>= fun mixed => (modI mixed (65536 : Int)) >>= fun τ25 => (pushL σ2 τ25) >>= fun draws => (fdivI mixed (65536 : Int)) >>= fun τ26 => (modI τ26 (32768 : Int)) >>= fun τ27 => (pushL draws τ27) >>= fun draws => .ok draws)) >>= fun σ28 => .ok σ28)
def N._law_draws (script : Scr) : Res (List Int) :=
  (let draws : (List Int) := ([] : (List Int))
  (rangeR 0 (min2 (63 : Int) (lenL script.l))) >>= fun τ1 => (foldR (N._law_draws_l2 script) τ1 draws) >>= fun σ29 => .ok σ29)
def M._law_draws (script : Scr) : Res (List Int) :=
  ((.ok ([] : (List Int))) >>= fun draws => ((((.ok (63 : Int)) >>= fun a => ((.ok script) >>= fun a => Res.ok (lenL a.l)) >>= fun b => Res.ok (min2 a b)) >>= fun n => rangeR 0 n) >>= fun xs => foldR (fun σ2 ξ3 => ((((.ok script) >>= fun a => (.ok ξ3) >>= fun b => getL a.l b) >>= fun a => Res.ok (absI a)) >>= fun rest => (((.ok rest) >>= fun a => ((.ok (10 : Int)) >>= fun a => (.ok (18 : Int)) >>= fun b => powI a b) >>= fun b => .ok (decide (b ≤ a))) >>= fun b => (if b then (((.ok (60 : Int)) >>= fun n => rangeR 0 n) >>= fun xs => foldR (fun σ8 ξ9 => (((.ok σ8.2) >>= fun a => (.ok (0 : Int)) >>= fun b => .ok (decide (b < a))) >>= fun b => (if b then ((((.ok σ8.2) >>= fun a => Res.ok a) >>= fun a => (.ok (65536 : Int)) >>= fun b => modI a b) >>= fun y => pushL σ8.1 y >>= fun draws => (((.ok σ8.2) >>= fun a => (.ok (65536 : Int)) >>= fun b => fdivI a b) >>= fun rest => (.ok (draws, rest)))) else (.ok (σ8.1, σ8.2))) >>= fun σ12 => (.ok (σ12.1, σ12.2)))) xs (σ2, rest) >>= fun σ13 => (.ok σ13.1)) else ((((((.ok rest) >>= fun a => (.ok (48271 : Int)) >>= fun b => mulI a b) >>= fun a => (((.ok ξ3) >>= fun a => (.ok (1 : Int)) >>= fun b => Res.ok (a + b)) >>= fun a => (.ok (69621 : Int)) >>= fun b => mulI a b) >>= fun b => Res.ok (a + b)) >>= fun a => Res.ok a) >>= fun a => (.ok (2147483647 : Int)) >>= fun b => modI a b) >>= fun mixed => (((((((.ok mixed) >>= fun a => (.ok (16807 : Int)) >>= fun b => mulI a b) >>= fun a => ((.ok (11 : Int)) >>= fun a => (.ok ξ3) >>= fun b => mulI a b) >>= fun b => Res.ok (a + b)) >>= fun a => (.ok (5 : Int)) >>= fun b => Res.ok (a + b)) >>= fun a => Res.ok a) >>= fun a => (.ok (2147483629 : Int)) >>= fun b => modI a b) >>= fun mixed => ((((.ok mixed) >>= fun a => Res.ok a) >>= fun a => (.ok (65536 : Int)) >>= fun b => modI a b) >>= fun y => pushL σ2 y >>= fun draws => (((((.ok mixed) >>= fun a => (.ok (65536 : Int)) >>= fun b => fdivI a b) >>= fun a => Res.ok a) >>= fun a => (.ok (32768 : Int)) >>= fun b => modI a b) >>= fun y => pushL draws y >>= fun draws => (.ok draws)))))) >>= fun σ28 => (.ok σ28)))) xs draws >>= fun σ29 => (.ok σ29)))
theorem M._law_draws_eq : @M._law_draws = @N._law_draws := by
  funext script
  delta M._law_draws
  delta N._law_draws
  delta N._law_draws_l2
  delta N._law_draws_l1
  simp only [Res.bind_assoc', Res.ok_bind2, Res.bind_ok] <;> rfl
theorem sc__law_draws : FnScope ["script", "draws", "k", "rest", "turn", "mixed"] ["script"] (defScope s__law_draws) := ⟨rfl, rfl, rfl, by decide +kernel, rfl, by decide +kernel, by decide +kernel⟩
theorem ok__law_draws {P : Program} {w : World} {K : PySem.W.Frag} {mg : Str → Option Value} {base : Heap} (bi : Bi P K mg) {fa : Addr} {fd : FuncData} (F : FunD K "_law_draws" "_law_draws" (defArgs s__law_draws) (defBody s__law_draws) (defScope s__law_draws) [] [] fa fd)   :
    FnV P w K mg base 2 fa fd ["script"] (Rn1 N._law_draws) := by
  rw [← M._law_draws_eq]
  refine fn1 F sc__law_draws rfl (by decide) fun cdv A outer s H E gr script => ?_
  have tk : Takes (defX P w K mg base ["script", "draws", "k", "rest", "turn", "mixed"] "_law_draws" (defScope s__law_draws) fa cdv A outer s H E) (defW E) := takes_of rfl rfl rfl rfl
  have hp : PassesOwn (model (defX P w K mg base ["script", "draws", "k", "rest", "turn", "mixed"] "_law_draws" (defScope s__law_draws) fa cdv A outer s H E).prog (defX P w K mg base ["script", "draws", "k", "rest", "turn", "mixed"] "_law_draws" (defScope s__law_draws) fa cdv A outer s H E).w) (defX P w K mg base ["script", "draws", "k", "rest", "turn", "mixed"] "_law_draws" (defScope s__law_draws) fa cdv A outer s H E).A (defX P w K mg base ["script", "draws", "k", "rest", "turn", "mixed"] "_law_draws" (defScope s__law_draws) fa cdv A outer s H E).env (defX P w K mg base ["script", "draws", "k", "rest", "turn", "mixed"] "_law_draws" (defScope s__law_draws) fa cdv A outer s H E).xe := passes_of rfl
  have hN := sc__law_draws.nd
  unfold M._law_draws
  refine XB.asgO 1 [0] (fun draws => [(1, SV.ow (toD draws)), (0, SV.sh (toD script))]) hN ?ex ?_
  case ex => exact XF.lst0
  intro draws
  refine XB.forS (fun (σ2 : (List Int)) => [(1, SV.ow (toD σ2)), (0, SV.sh (toD script))]) (fun (σ2 : (List Int)) (ξ3 : Int) => [(2, SV.sh (toD ξ3)), (1, SV.ow (toD σ2)), (0, SV.sh (toD script))]) hp rfl (XI.range1 bi.b_range (XV.min2 bi.b_min XV.int (XV.callB b_lenScr (by rfl) bi.b_len (by rfl) (XV.w (XV.var 1 rfl))))) (fun σ2 ξ3 => (XG.name 2 [0, 1] hN)) ?_ (wk [0, 1]) ?_
  · intro σ2 ξ3
    refine XB.asg 3 [0, 1, 2] (fun rest => [(3, SV.sh (toD rest)), (2, SV.sh (toD ξ3)), (1, SV.ow (toD σ2)), (0, SV.sh (toD script))]) hN ?ex ?_
    case ex => exact (XV.callB b_abs (by rfl) bi.b_abs (by rfl) (XV.w (XV.idxScr (XV.w (XV.var 2 rfl)) (XV.var 0 rfl))))
    intro rest
    refine XB.ifN (fun (σ28 : (List Int)) => [(1, SV.ow (toD σ28)), (0, SV.sh (toD script))]) ?tst ?_ ?_ ?_
    case tst => exact (XT.cmp c_ge (XV.w (XV.var 0 rfl)) (XV.w (XV.bin o_pow XV.int XV.int)))
    · skip
      refine XB.forS (fun (σ8 : (List Int) × Int) => [(1, SV.ow (toD σ8.1)), (3, SV.sh (toD σ8.2)), (0, SV.sh (toD script))]) (fun (σ8 : (List Int) × Int) (ξ9 : Int) => [(4, SV.sh (toD ξ9)), (1, SV.ow (toD σ8.1)), (3, SV.sh (toD σ8.2)), (0, SV.sh (toD script))]) hp rfl (XI.range1 bi.b_range XV.int) (fun σ8 ξ9 => (XG.name 4 [0, 1, 2] hN)) ?_ (wk [2, 0, 3]) ?_
      · intro σ8 ξ9
        refine XB.ifN (fun (σ12 : (List Int) × Int) => [(1, SV.ow (toD σ12.1)), (3, SV.sh (toD σ12.2)), (0, SV.sh (toD script))]) ?tst ?_ ?_ ?_
        case tst => exact (XT.cmp c_gt (XV.w (XV.var 2 rfl)) (XV.w XV.int))
        · skip
          refine XB.append 1 1 [2, 3] (fun draws => [(1, SV.ow (toD draws)), (3, SV.sh (toD σ8.2)), (0, SV.sh (toD script))]) rfl ?ex ?_
          case ex => exact (XV.bin o_mod (XV.callT b_int (by rfl) bi.b_int (by rfl) (XV.w (XV.var 2 rfl))) XV.int)
          intro draws
          refine XB.asg 3 [0, 2] (fun rest => [(3, SV.sh (toD rest)), (1, SV.ow (toD draws)), (0, SV.sh (toD script))]) hN ?ex ?_
          case ex => exact (XV.bin o_fdiv (XV.var 1 rfl) XV.int)
          intro rest
          exact XB.nilT (t := (draws, rest)) rfl (wk [1, 0, 2])
        · skip
          exact XB.nilT (t := (σ8.1, σ8.2)) rfl (wk [1, 2, 3])
        intro σ12
        exact XB.nilT (t := (σ12.1, σ12.2)) rfl (wk [0, 1, 2])
      intro σ13
      exact XB.nilT (t := σ13.1) rfl (wk [0, 2])
    · skip
      refine XB.asg 5 [1, 2, 3] (fun mixed => [(5, SV.sh (toD mixed)), (2, SV.sh (toD ξ3)), (1, SV.ow (toD σ2)), (0, SV.sh (toD script))]) hN ?ex ?_
      case ex => exact (XV.bin o_mod (XV.callT b_int (by rfl) bi.b_int (by rfl) (XV.w (XV.bin o_add (XV.bin o_mul (XV.var 0 rfl) XV.int) (XV.bin o_mul (XV.bin o_add (XV.var 1 rfl) XV.int) XV.int)))) XV.int)
      intro mixed
      refine XB.asg 5 [2, 3] (fun mixed => [(5, SV.sh (toD mixed)), (1, SV.ow (toD σ2)), (0, SV.sh (toD script))]) hN ?ex ?_
      case ex => exact (XV.bin o_mod (XV.callT b_int (by rfl) bi.b_int (by rfl) (XV.w (XV.bin o_add (XV.bin o_add (XV.bin o_mul (XV.var 0 rfl) XV.int) (XV.bin o_mul XV.int (XV.var 1 rfl))) XV.int))) XV.int)
      intro mixed
      refine XB.append 1 1 [0, 2] (fun draws => [(1, SV.ow (toD draws)), (5, SV.sh (toD mixed)), (0, SV.sh (toD script))]) rfl ?ex ?_
      case ex => exact (XV.bin o_mod (XV.callT b_int (by rfl) bi.b_int (by rfl) (XV.w (XV.var 0 rfl))) XV.int)
      intro draws
      refine XB.append 0 1 [2] (fun draws => [(1, SV.ow (toD draws)), (0, SV.sh (toD script))]) rfl ?ex ?_
      case ex => exact (XV.bin o_mod (XV.callT b_int (by rfl) bi.b_int (by rfl) (XV.w (XV.bin o_fdiv (XV.var 1 rfl) XV.int))) XV.int)
      intro draws
      exact XB.nilT (t := draws) rfl (wk [0, 1])
    intro σ28
    exact XB.nilT (t := σ28) rfl (wk [0, 1])
  intro σ29
  refine XB.freeze (x := σ29) 0 1 [1] [(1, SV.sh (toD σ29)), (0, SV.sh (toD script))] rfl ?_
  exact XB.ret (XV.var 0 rfl)
def N._law_mix (draws : (List Int)) (k' : Int) (many : Int) : Res Int :=
  (let value : Int := (0 : Int)
  (if (decide ((0 : Int) < (lenL draws))) then ((modI k' (lenL draws)) >>= fun τ2 => (getL draws τ2) >>= fun value => .ok value) else
  (.ok value)) >>= fun σ3 => (if (decide (k' < (lenL draws))) then ((modI σ3 many) >>= fun τ4 => .ok τ4) else
  ((mulI σ3 (7919 : Int)) >>= fun τ6 => (mulI k' (104729 : Int)) >>= fun τ7 => (fdivI (τ6 + τ7) (3 : Int)) >>= fun τ8 => (modI τ8 many) >>= fun τ9 => .ok τ9)))
def M._law_mix (draws : (List Int)) (k' : Int) (many : Int) : Res Int :=
  ((.ok (0 : Int)) >>= fun value => ((((.ok draws) >>= fun a => Res.ok (lenL a)) >>= fun a => (.ok (0 : Int)) >>= fun b => .ok (decide (b < a))) >>= fun b => (if b then (((.ok draws) >>= fun a => (((.ok k') >>= fun a => Res.ok a) >>= fun a => ((.ok draws) >>= fun a => Res.ok (lenL a)) >>= fun b => modI a b) >>= fun b => getL a b) >>= fun value => (.ok value)) else (.ok value)) >>= fun σ3 => (((.ok k') >>= fun a => ((.ok draws) >>= fun a => Res.ok (lenL a)) >>= fun b => .ok (decide (a < b))) >>= fun b => if b then (((.ok σ3) >>= fun a => Res.ok a) >>= fun a => (.ok many) >>= fun b => modI a b) else (((((((.ok σ3) >>= fun a => (.ok (7919 : Int)) >>= fun b => mulI a b) >>= fun a => ((.ok k') >>= fun a => (.ok (104729 : Int)) >>= fun b => mulI a b) >>= fun b => Res.ok (a + b)) >>= fun a => Res.ok a) >>= fun a => (.ok (3 : Int)) >>= fun b => fdivI a b) >>= fun a => Res.ok a) >>= fun a => (.ok many) >>= fun b => modI a b))))
theorem M._law_mix_eq : @M._law_mix = @N._law_mix := by
  funext draws k' many
  delta M._law_mix
  delta N._law_mix
  simp only [Res.bind_assoc', Res.ok_bind2, Res.bind_ok] <;> rfl
theorem sc__law_mix : FnScope ["draws", "k", "many", "value"] ["draws", "k", "many"] (defScope s__law_mix) := ⟨rfl, rfl, rfl, by decide +kernel, rfl, by decide +kernel, by decide +kernel⟩
theorem ok__law_mix {P : Program} {w : World} {K : PySem.W.Frag} {mg : Str → Option Value} {base : Heap} (bi : Bi P K mg) {fa : Addr} {fd : FuncData} (F : FunD K "_law_mix" "_law_mix" (defArgs s__law_mix) (defBody s__law_mix) (defScope s__law_mix) [] [] fa fd)   :
    FnV P w K mg base 2 fa fd ["draws", "k", "many"] (Rn3 N._law_mix) := by
  rw [← M._law_mix_eq]
  refine fn3 F sc__law_mix rfl (by decide) fun cdv A outer s H E gr draws k' many => ?_
  have tk : Takes (defX P w K mg base ["draws", "k", "many", "value"] "_law_mix" (defScope s__law_mix) fa cdv A outer s H E) (defW E) := takes_of rfl rfl rfl rfl
  have hp : PassesOwn (model (defX P w K mg base ["draws", "k", "many", "value"] "_law_mix" (defScope s__law_mix) fa cdv A outer s H E).prog (defX P w K mg base ["draws", "k", "many", "value"] "_law_mix" (defScope s__law_mix) fa cdv A outer s H E).w) (defX P w K mg base ["draws", "k", "many", "value"] "_law_mix" (defScope s__law_mix) fa cdv A outer s H E).A (defX P w K mg base ["draws", "k", "many", "value"] "_law_mix" (defScope s__law_mix) fa cdv A outer s H E).env (defX P w K mg base ["draws", "k", "many", "value"] "_law_mix" (defScope s__law_mix) fa cdv A outer s H E).xe := passes_of rfl
  have hN := sc__law_mix.nd
  unfold M._law_mix
  refine XB.asg 3 [0, 1, 2] (fun value => [(3, SV.sh (toD value)), (0, SV.sh (toD draws)), (1, SV.sh (toD k')), (2, SV.sh (toD many))]) hN ?ex ?_
  case ex => exact XV.int
  intro value
  refine XB.ifN (fun (σ3 : Int) => [(3, SV.sh (toD σ3)), (0, SV.sh (toD draws)), (1, SV.sh (toD k')), (2, SV.sh (toD many))]) ?tst ?_ ?_ ?_
  case tst => exact (XT.cmp c_gt (XV.w (XV.callB b_len (by rfl) bi.b_len (by rfl) (XV.w (XV.var 1 rfl)))) (XV.w XV.int))
  · skip
    refine XB.asg 3 [1, 2, 3] (fun value => [(3, SV.sh (toD value)), (0, SV.sh (toD draws)), (1, SV.sh (toD k')), (2, SV.sh (toD many))]) hN ?ex ?_
    case ex => exact (XV.idx (XV.w (XV.var 1 rfl)) (XV.bin o_mod (XV.callT b_int (by rfl) bi.b_int (by rfl) (XV.w (XV.var 2 rfl))) (XV.callB b_len (by rfl) bi.b_len (by rfl) (XV.w (XV.var 1 rfl)))))
    intro value
    exact XB.nilT (t := value) rfl (wk [0, 1, 2, 3])
  · skip
    exact XB.nilT (t := value) rfl (wk [0, 1, 2, 3])
  intro σ3
  refine XB.ifR ?tst ?_ ?_ (by intro t h ρ2 h2; cases h2)
  case tst => exact (XT.cmp c_lt (XV.w (XV.var 2 rfl)) (XV.w (XV.callB b_len (by rfl) bi.b_len (by rfl) (XV.w (XV.var 1 rfl)))))
  · skip
    exact XB.ret (XV.bin o_mod (XV.callT b_int (by rfl) bi.b_int (by rfl) (XV.w (XV.var 0 rfl))) (XV.var 3 rfl))
  · skip
    exact XB.ret (XV.bin o_mod (XV.callT b_int (by rfl) bi.b_int (by rfl) (XV.w (XV.bin o_fdiv (XV.callT b_int (by rfl) bi.b_int (by rfl) (XV.w (XV.bin o_add (XV.bin o_mul (XV.var 0 rfl) XV.int) (XV.bin o_mul (XV.var 2 rfl) XV.int)))) XV.int))) (XV.var 3 rfl))
def N._law_row (draws : (List Int)) (k' : Int) (least : Int) (most : Int) (wide : Int) : Res (List Int) :=
  (N._law_mix draws k' ((most - least) + (1 : Int))) >>= fun τ1 => (rangeR 0 (least + τ1)) >>= fun τ2 => (lcR (fun ξ3 => .ok true) (fun ξ3 => (N._law_mix draws ((k' + (1 : Int)) + ξ3) wide) >>= fun τ4 => .ok ((1 : Int) + τ4)) τ2) >>= fun τ5 => .ok τ5
def M._law_row (draws : (List Int)) (k' : Int) (least : Int) (most : Int) (wide : Int) : Res (List Int) :=
  ((((.ok least) >>= fun a => ((.ok draws) >>= fun x1 => (.ok k') >>= fun x2 => (((.ok most) >>= fun a => (.ok least) >>= fun b => Res.ok (a - b)) >>= fun a => (.ok (1 : Int)) >>= fun b => Res.ok (a + b)) >>= fun x3 => N._law_mix x1 x2 x3) >>= fun b => Res.ok (a + b)) >>= fun n => rangeR 0 n) >>= fun xs => lcR (fun ξ3 => (.ok true)) (fun ξ3 => ((.ok (1 : Int)) >>= fun a => ((.ok draws) >>= fun x1 => (((.ok k') >>= fun a => (.ok (1 : Int)) >>= fun b => Res.ok (a + b)) >>= fun a => (.ok ξ3) >>= fun b => Res.ok (a + b)) >>= fun x2 => (.ok wide) >>= fun x3 => N._law_mix x1 x2 x3) >>= fun b => Res.ok (a + b))) xs)
theorem M._law_row_eq : @M._law_row = @N._law_row := by
  funext draws k' least most wide
  delta M._law_row
  delta N._law_row
  simp only [Res.bind_assoc', Res.ok_bind2, Res.bind_ok] <;> rfl
theorem sc__law_row : FnScope ["draws", "k", "least", "most", "wide", "t"] ["draws", "k", "least", "most", "wide"] (defScope s__law_row) := ⟨rfl, rfl, rfl, by decide +kernel, rfl, by decide +kernel, by decide +kernel⟩
theorem ok__law_row {P : Program} {w : World} {K : PySem.W.Frag} {mg : Str → Option Value} {base : Heap} (bi : Bi P K mg) {fa : Addr} {fd : FuncData} (F : FunD K "_law_row" "_law_row" (defArgs s__law_row) (defBody s__law_row) (defScope s__law_row) [] [] fa fd) {f__law_mix : Addr} {fd__law_mix : FuncData} (C__law_mix : FnC K mg "_law_mix" f__law_mix fd__law_mix ["draws", "k", "many"]) (G__law_mix : FnV P w K mg base 2 f__law_mix fd__law_mix ["draws", "k", "many"] (Rn3 N._law_mix)) :
    FnV P w K mg base 3 fa fd ["draws", "k", "least", "most", "wide"] (Rn5 N._law_row) := by
  rw [← M._law_row_eq]
  refine fn5 F sc__law_row rfl (by decide) fun cdv A outer s H E gr draws k' least most wide => ?_
  have tk : Takes (defX P w K mg base ["draws", "k", "least", "most", "wide", "t"] "_law_row" (defScope s__law_row) fa cdv A outer s H E) (defW E) := takes_of rfl rfl rfl rfl
  have hp : PassesOwn (model (defX P w K mg base ["draws", "k", "least", "most", "wide", "t"] "_law_row" (defScope s__law_row) fa cdv A outer s H E).prog (defX P w K mg base ["draws", "k", "least", "most", "wide", "t"] "_law_row" (defScope s__law_row) fa cdv A outer s H E).w) (defX P w K mg base ["draws", "k", "least", "most", "wide", "t"] "_law_row" (defScope s__law_row) fa cdv A outer s H E).A (defX P w K mg base ["draws", "k", "least", "most", "wide", "t"] "_law_row" (defScope s__law_row) fa cdv A outer s H E).env (defX P w K mg base ["draws", "k", "least", "most", "wide", "t"] "_law_row" (defScope s__law_row) fa cdv A outer s H E).xe := passes_of rfl
  have hN := sc__law_row.nd
  unfold M._law_row
  exact XB.ret (XF.v (XF.lc [("t", 5)] [0, 1, 2, 3, 4] [(0, SV.sh (toD draws)), (1, SV.sh (toD k')), (2, SV.sh (toD least)), (3, SV.sh (toD most)), (4, SV.sh (toD wide))] (fun ξ3 => [(5, SV.sh (toD ξ3)), (0, SV.sh (toD draws)), (1, SV.sh (toD k')), (2, SV.sh (toD least)), (3, SV.sh (toD most)), (4, SV.sh (toD wide))]) rfl hN (XI.range1 bi.b_range (XV.bin o_add (XV.var 2 rfl) (XV.fn3 (G__law_mix.mono (by decide)) C__law_mix gr tk (XV.var 0 rfl) (XV.var 1 rfl) (XV.bin o_add (XV.bin o_sub (XV.var 3 rfl) (XV.var 2 rfl)) XV.int)))) (by rfl) (fun ξ3 _ _ _ _ _ => (XG.name 5 [0, 1, 2, 3, 4] hN)) (fun ξ3 _ _ _ _ _ => XTs.nil) (fun ξ3 _ _ _ _ _ => (XV.bin o_add XV.int (XV.fn3 (G__law_mix.mono (by decide)) C__law_mix gr takes0 (XV.var 1 rfl) (XV.bin o_add (XV.bin o_add (XV.var 2 rfl) XV.int) (XV.var 0 rfl)) (XV.var 5 rfl))))))
end Law
end
section
set_option Elab.async false
set_option linter.all false
set_option maxRecDepth 100000
set_option maxHeartbeats 0
noncomputable section
namespace Law
open Vs.Enc (toD)
open PySem PySem.Spec PyProof.Rows L2 Vs
def N.law_l1 (draws : (List Int)) (master : (List Int)) : ((List (List Int)) × (List Int)) → Int → Res ((List (List Int)) × (List Int)) := fun σ7 ξ8 =>
  (mulI (2 : Int) ξ8) >>= fun τ9 => (N._law_mix draws ((60 : Int) + τ9) ((lenL master) - (1 : Int))) >>= fun start => (mulI (2 : Int) ξ8) >>= fun τ11 => (N._law_mix draws ((61 : Int) + τ11) (20 : Int)) >>= fun τ12 => (pushL σ7.1 (cutL master (some start) (some ((start + (2 : Int)) + τ12)))) >>= fun rows => (pushL σ7.2 start) >>= fun starts => .ok (rows, starts)
def N.law_l2 (draws : (List Int)) (σ13 : (List (List Int)) × (List Int)) : ((List (T3 Int Int Int))) → Int → Res ((List (T3 Int Int Int))) := fun σ15 ξ16 =>
  (N._law_mix draws ((80 : Int) + ξ16) ξ16) >>= fun a' => (getL σ13.2 ξ16) >>= fun τ22 => (getL σ13.2 a') >>= fun τ23 => (getL σ13.2 a') >>= fun τ24 => (getL σ13.2 ξ16) >>= fun τ25 => (N._law_mix draws ((90 : Int) + ξ16) (2 : Int)) >>= fun τ27 => (getL [(T3.mk a' ξ16 (τ22 - τ23)), (T3.mk ξ16 a' (τ24 - τ25))] τ27) >>= fun τ26 => (pushL σ15 τ26) >>= fun records => .ok records
def N.law_l3 (master : (List Int)) (σ13 : (List (List Int)) × (List Int)) : (Unit) → Int → Res (Ctl Bool (Unit)) := fun σ30 ξ31 =>
  (getL σ13.1 ξ31) >>= fun τ32 => (getL σ13.2 ξ31) >>= fun τ33 => (let α34 : (List Int) := τ32
  (let α35 : Int := τ33
  (rangeR α35 (α35 + (lenL α34))) >>= fun places => (N.agreement master α34 α35) >>= fun τ38 => (if (!decide (τ38 = (((lenL α34) - (1 : Int)), ((lenL α34) - (1 : Int))))) then .ok true else ((N.cost master α34 (5 : Int) places) >>= fun τ40 => .ok (!decide (τ40 = (some (0 : Int)))))) >>= fun τ41 => (if τ41 then (.ok false) >>= fun o => .ok (Ctl.ex o) else
  ((N.least_laying master α34 (5 : Int)) >>= fun τ43 => (if (!decide (τ43.1 = (0 : Int))) then .ok true else ((N.count_least master α34 (5 : Int)) >>= fun τ45 => .ok (decide (τ45 < (1 : Int))))) >>= fun τ46 => (if τ46 then (.ok false) >>= fun o => .ok (Ctl.ex o) else
  ((N.best_shift master α34 ((lenL α34) - (1 : Int))) >>= fun best => (if (decide (best = none)) then .ok true else ((unO best) >>= fun τ50 => (N.agreement master α34 τ50) >>= fun τ51 => (if (!decide (τ51 = (((lenL α34) - (1 : Int)), ((lenL α34) - (1 : Int))))) then .ok true else ((unO best) >>= fun τ52 => .ok (decide (α35 < τ52)))) >>= fun τ53 => .ok τ53)) >>= fun τ54 => (if τ54 then (.ok false) >>= fun o => .ok (Ctl.ex o) else
  (.ok (Ctl.nx ())))))))))
def N.law_l4 (master : (List Int)) (σ13 : (List (List Int)) × (List Int)) (mean : (List (Option (Int × Int)))) (first : Int) : (Unit) → Int → Res (Ctl Bool (Unit)) := fun σ72 ξ73 =>
  (rangeR 0 (lenL σ13.1)) >>= fun τ74 => (lcR (fun ξ75 => (getL σ13.2 ξ75) >>= fun τ78 => (if decide ((0 : Int) ≤ ((first + ξ73) - τ78)) then ((getL σ13.1 ξ75) >>= fun τ79 => .ok (decide (((first + ξ73) - τ78) < (lenL τ79)))) else .ok false) >>= fun τ80 => .ok τ80) (fun ξ75 => .ok ξ75) τ74) >>= fun here => (getL mean ξ73) >>= fun τ83 => (getL master (first + ξ73)) >>= fun τ85 => (getL [none, (some (τ85, (1 : Int)))] (boolI (!decide (here = ([] : (List Int)))))) >>= fun τ86 => (if (!decide (τ83 = τ86)) then (.ok false) >>= fun o => .ok (Ctl.ex o) else
  (.ok (Ctl.nx ())))
def N.law_l5 (σ13 : (List (List Int)) × (List Int)) (ξ94 : Int) : (Unit) → Int → Res (Ctl Bool (Unit)) := fun σ96 ξ97 =>
  (getL σ13.1 ξ94) >>= fun τ98 => (getL σ13.1 ξ97) >>= fun τ99 => (getL σ13.2 ξ97) >>= fun τ100 => (getL σ13.2 ξ94) >>= fun τ101 => (N.agreement τ98 τ99 (τ100 - τ101)) >>= fun part => (if (!decide (part.1 = part.2)) then (.ok false) >>= fun o => .ok (Ctl.ex o) else
  (.ok (Ctl.nx ())))
def N.law_l6 (σ13 : (List (List Int)) × (List Int)) : (Unit) → Int → Res (Ctl Bool (Unit)) := fun σ93 ξ94 =>
  (rangeR 0 ξ94) >>= fun τ95 => (foldC (N.law_l5 σ13 ξ94) τ95 ()) >>= fun κ104 => thenC (fun o => .ok (Ctl.ex o)) (fun σ103 => .ok (Ctl.nx ())) κ104
def N.law (script : Scr) : Res Bool :=
  (N._law_draws script) >>= fun draws => (N._law_mix draws (0 : Int) (2 : Int)) >>= fun τ3 => (getL [(9 : Int), (400 : Int)] τ3) >>= fun τ2 => (N._law_row draws (10 : Int) (6 : Int) (40 : Int) τ2) >>= fun master => (let rows : (List (List Int)) := ([] : (List (List Int)))
  (let starts : (List Int) := ([] : (List Int))
  (N._law_mix draws (1 : Int) (6 : Int)) >>= fun τ5 => (rangeR 0 ((1 : Int) + τ5)) >>= fun τ6 => (foldR (N.law_l1 draws master) τ6 (rows, starts)) >>= fun σ13 => (let records : (List (T3 Int Int Int)) := ([] : (List (T3 Int Int Int)))
  (rangeR (1 : Int) (lenL σ13.1)) >>= fun τ14 => (foldR (N.law_l2 draws σ13) τ14 records) >>= fun σ28 => (rangeR 0 (lenL σ13.1)) >>= fun τ29 => (foldC (N.law_l3 master σ13) τ29 ()) >>= fun κ108 => thenC (fun o => .ok o) (fun σ55 => (N.years (lenL σ13.1) σ28) >>= fun told => (if (decide (told = none)) then .ok true else ((N.ring (lenL σ13.1) σ28) >>= fun τ58 => (if (!decide (τ58 = none)) then .ok true else ((lcR (fun ξ62 => .ok true) (fun ξ62 => (getL σ13.2 (0 : Int)) >>= fun τ63 => .ok (ξ62 - τ63)) σ13.2) >>= fun τ64 => (if (!decide (told = (some τ64))) then .ok true else ((N.do_fit (lenL σ13.1) σ28 σ13.2) >>= fun τ65 => .ok (!decide (τ65 = true)))) >>= fun τ66 => .ok τ66)) >>= fun τ67 => .ok τ67)) >>= fun τ68 => (if τ68 then (.ok false) else
  ((N.mean_row σ13.1 σ13.2) >>= fun mean => (minL σ13.2) >>= fun first => (rangeR 0 (lenL mean)) >>= fun τ71 => (foldC (N.law_l4 master σ13 mean first) τ71 ()) >>= fun κ107 => thenC (fun o => .ok o) (fun σ87 => (unO told) >>= fun τ90 => (N.mean_row σ13.1 τ90) >>= fun τ91 => (if (!decide (τ91 = mean)) then (.ok false) else
  ((rangeR 0 (lenL σ13.1)) >>= fun τ92 => (foldC (N.law_l6 σ13) τ92 ()) >>= fun κ106 => thenC (fun o => .ok o) (fun σ105 => .ok true) κ106))) κ107))) κ108)))
def M.law (script : Scr) : Res Bool :=
  (((.ok script) >>= fun x1 => N._law_draws x1) >>= fun draws => (((.ok draws) >>= fun x1 => (.ok (10 : Int)) >>= fun x2 => (.ok (6 : Int)) >>= fun x3 => (.ok (40 : Int)) >>= fun x4 => (((.ok (9 : Int)) >>= fun a => (.ok (400 : Int)) >>= fun b => Res.ok [a, b]) >>= fun a => ((.ok draws) >>= fun x1 => (.ok (0 : Int)) >>= fun x2 => (.ok (2 : Int)) >>= fun x3 => N._law_mix x1 x2 x3) >>= fun b => getL a b) >>= fun x5 => N._law_row x1 x2 x3 x4 x5) >>= fun master => ((.ok ([] : (List (List Int)))) >>= fun rows => (.ok ([] : (List Int))) >>= fun starts => ((((.ok (1 : Int)) >>= fun a => ((.ok draws) >>= fun x1 => (.ok (1 : Int)) >>= fun x2 => (.ok (6 : Int)) >>= fun x3 => N._law_mix x1 x2 x3) >>= fun b => Res.ok (a + b)) >>= fun n => rangeR 0 n) >>= fun xs => foldR (fun σ7 ξ8 => (((.ok draws) >>= fun x1 => ((.ok (60 : Int)) >>= fun a => ((.ok (2 : Int)) >>= fun a => (.ok ξ8) >>= fun b => mulI a b) >>= fun b => Res.ok (a + b)) >>= fun x2 => (((.ok master) >>= fun a => Res.ok (lenL a)) >>= fun a => (.ok (1 : Int)) >>= fun b => Res.ok (a - b)) >>= fun x3 => N._law_mix x1 x2 x3) >>= fun start => (((.ok master) >>= fun a => ((.ok start) >>= fun z => .ok (some z)) >>= fun b => ((((.ok start) >>= fun a => (.ok (2 : Int)) >>= fun b => Res.ok (a + b)) >>= fun a => ((.ok draws) >>= fun x1 => ((.ok (61 : Int)) >>= fun a => ((.ok (2 : Int)) >>= fun a => (.ok ξ8) >>= fun b => mulI a b) >>= fun b => Res.ok (a + b)) >>= fun x2 => (.ok (20 : Int)) >>= fun x3 => N._law_mix x1 x2 x3) >>= fun b => Res.ok (a + b)) >>= fun z => .ok (some z)) >>= fun c => Res.ok (cutL a b c)) >>= fun y => pushL σ7.1 y >>= fun rows => ((.ok start) >>= fun y => pushL σ7.2 y >>= fun starts => (.ok (rows, starts)))))) xs (rows, starts) >>= fun σ13 => ((.ok ([] : (List (T3 Int Int Int)))) >>= fun records => (((.ok (1 : Int)) >>= fun a => ((.ok σ13.1) >>= fun a => Res.ok (lenL a)) >>= fun b => rangeR a b) >>= fun xs => foldR (fun σ15 ξ16 => (((.ok draws) >>= fun x1 => ((.ok (80 : Int)) >>= fun a => (.ok ξ16) >>= fun b => Res.ok (a + b)) >>= fun x2 => (.ok ξ16) >>= fun x3 => N._law_mix x1 x2 x3) >>= fun a' => (((((.ok a') >>= fun a => (.ok ξ16) >>= fun b => (((.ok σ13.2) >>= fun a => (.ok ξ16) >>= fun b => getL a b) >>= fun a => ((.ok σ13.2) >>= fun a => (.ok a') >>= fun b => getL a b) >>= fun b => Res.ok (a - b)) >>= fun c => Res.ok (T3.mk a b c)) >>= fun a => ((.ok ξ16) >>= fun a => (.ok a') >>= fun b => (((.ok σ13.2) >>= fun a => (.ok a') >>= fun b => getL a b) >>= fun a => ((.ok σ13.2) >>= fun a => (.ok ξ16) >>= fun b => getL a b) >>= fun b => Res.ok (a - b)) >>= fun c => Res.ok (T3.mk a b c)) >>= fun b => Res.ok [a, b]) >>= fun a => ((.ok draws) >>= fun x1 => ((.ok (90 : Int)) >>= fun a => (.ok ξ16) >>= fun b => Res.ok (a + b)) >>= fun x2 => (.ok (2 : Int)) >>= fun x3 => N._law_mix x1 x2 x3) >>= fun b => getL a b) >>= fun y => pushL σ15 y >>= fun records => (.ok records)))) xs records >>= fun σ28 => ((((.ok σ13.1) >>= fun a => Res.ok (lenL a)) >>= fun n => rangeR 0 n) >>= fun xs => foldC (fun σ30 ξ31 => (((.ok σ13.1) >>= fun a => (.ok ξ31) >>= fun b => getL a b) >>= fun α34 => ((.ok σ13.2) >>= fun a => (.ok ξ31) >>= fun b => getL a b) >>= fun α35 => (((.ok α35) >>= fun a => ((.ok α35) >>= fun a => ((.ok α34) >>= fun a => Res.ok (lenL a)) >>= fun b => Res.ok (a + b)) >>= fun b => rangeR a b) >>= fun places => (((((.ok master) >>= fun x1 => (.ok α34) >>= fun x2 => (.ok α35) >>= fun x3 => N.agreement x1 x2 x3) >>= fun a => ((((.ok α34) >>= fun a => Res.ok (lenL a)) >>= fun a => (.ok (1 : Int)) >>= fun b => Res.ok (a - b)) >>= fun a => (((.ok α34) >>= fun a => Res.ok (lenL a)) >>= fun a => (.ok (1 : Int)) >>= fun b => Res.ok (a - b)) >>= fun b => Res.ok (a, b)) >>= fun b => .ok (!decide (a = b))) >>= fun c => if c then .ok true else (((.ok master) >>= fun x1 => (.ok α34) >>= fun x2 => (.ok (5 : Int)) >>= fun x3 => (.ok places) >>= fun x4 => N.cost x1 x2 x3 x4) >>= fun a => ((.ok (0 : Int)) >>= fun z => .ok (some z)) >>= fun b => .ok (!decide (a = b)))) >>= fun b => if b then .ok false >>= fun o => .ok (Ctl.ex o) else ((((((.ok master) >>= fun x1 => (.ok α34) >>= fun x2 => (.ok (5 : Int)) >>= fun x3 => N.least_laying x1 x2 x3) >>= fun a => .ok a.1) >>= fun a => (.ok (0 : Int)) >>= fun b => .ok (!decide (a = b))) >>= fun c => if c then .ok true else (((.ok master) >>= fun x1 => (.ok α34) >>= fun x2 => (.ok (5 : Int)) >>= fun x3 => N.count_least x1 x2 x3) >>= fun a => (.ok (1 : Int)) >>= fun b => .ok (decide (a < b)))) >>= fun b => if b then .ok false >>= fun o => .ok (Ctl.ex o) else (((.ok master) >>= fun x1 => (.ok α34) >>= fun x2 => (((.ok α34) >>= fun a => Res.ok (lenL a)) >>= fun a => (.ok (1 : Int)) >>= fun b => Res.ok (a - b)) >>= fun x3 => N.best_shift x1 x2 x3) >>= fun best => ((((.ok best) >>= fun a => .ok (decide (a = none))) >>= fun c => if c then .ok true else ((((.ok master) >>= fun x1 => (.ok α34) >>= fun x2 => ((.ok best) >>= fun z => unO z) >>= fun x3 => N.agreement x1 x2 x3) >>= fun a => ((((.ok α34) >>= fun a => Res.ok (lenL a)) >>= fun a => (.ok (1 : Int)) >>= fun b => Res.ok (a - b)) >>= fun a => (((.ok α34) >>= fun a => Res.ok (lenL a)) >>= fun a => (.ok (1 : Int)) >>= fun b => Res.ok (a - b)) >>= fun b => Res.ok (a, b)) >>= fun b => .ok (!decide (a = b))) >>= fun c => if c then .ok true else (((.ok best) >>= fun z => unO z) >>= fun a => (.ok α35) >>= fun b => .ok (decide (b < a))))) >>= fun b => if b then .ok false >>= fun o => .ok (Ctl.ex o) else (.ok (Ctl.nx ()))))))))) xs () >>= fun t => thenC (fun o => .ok o) (fun σ55 => ((((.ok σ13.1) >>= fun a => Res.ok (lenL a)) >>= fun x1 => (.ok σ28) >>= fun x2 => N.years x1 x2) >>= fun told => ((((.ok told) >>= fun a => .ok (decide (a = none))) >>= fun c => if c then .ok true else (((((.ok σ13.1) >>= fun a => Res.ok (lenL a)) >>= fun x1 => (.ok σ28) >>= fun x2 => N.ring x1 x2) >>= fun a => .ok (!decide (a = none))) >>= fun c => if c then .ok true else (((.ok told) >>= fun a => (((.ok σ13.2) >>= fun xs => lcR (fun ξ62 => (.ok true)) (fun ξ62 => ((.ok ξ62) >>= fun a => ((.ok σ13.2) >>= fun a => (.ok (0 : Int)) >>= fun b => getL a b) >>= fun b => Res.ok (a - b))) xs) >>= fun z => .ok (some z)) >>= fun b => .ok (!decide (a = b))) >>= fun c => if c then .ok true else ((((.ok σ13.1) >>= fun a => Res.ok (lenL a)) >>= fun x1 => (.ok σ28) >>= fun x2 => (.ok σ13.2) >>= fun x3 => N.do_fit x1 x2 x3) >>= fun a => .ok true >>= fun b => .ok (!decide (a = b)))))) >>= fun b => if b then .ok false else (((.ok σ13.1) >>= fun x1 => (.ok σ13.2) >>= fun x2 => N.mean_row x1 x2) >>= fun mean => (((.ok σ13.2) >>= fun a => minL a) >>= fun first => ((((.ok mean) >>= fun a => Res.ok (lenL a)) >>= fun n => rangeR 0 n) >>= fun xs => foldC (fun σ72 ξ73 => ((((.ok σ13.1) >>= fun a => Res.ok (lenL a)) >>= fun n => rangeR 0 n) >>= fun xs => lcR (fun ξ75 => ((.ok (0 : Int)) >>= fun a => (((.ok first) >>= fun a => (.ok ξ73) >>= fun b => Res.ok (a + b)) >>= fun a => ((.ok σ13.2) >>= fun a => (.ok ξ75) >>= fun b => getL a b) >>= fun b => Res.ok (a - b)) >>= fun b => if decide (a ≤ b) then (((.ok σ13.1) >>= fun a => (.ok ξ75) >>= fun b => getL a b) >>= fun a => Res.ok (lenL a)) >>= fun c => .ok (decide (b < c)) else .ok false)) (fun ξ75 => (.ok ξ75)) xs >>= fun here => ((((.ok mean) >>= fun a => (.ok ξ73) >>= fun b => getL a b) >>= fun a => (((.ok (none : (Option (Int × Int)))) >>= fun a => ((((.ok master) >>= fun a => ((.ok first) >>= fun a => (.ok ξ73) >>= fun b => Res.ok (a + b)) >>= fun b => getL a b) >>= fun a => (.ok (1 : Int)) >>= fun b => Res.ok (a, b)) >>= fun z => .ok (some z)) >>= fun b => Res.ok [a, b]) >>= fun a => (((.ok here) >>= fun a => (.ok ([] : (List Int))) >>= fun b => .ok (!decide (a = b))) >>= fun a => Res.ok (boolI a)) >>= fun b => getL a b) >>= fun b => .ok (!decide (a = b))) >>= fun b => if b then .ok false >>= fun o => .ok (Ctl.ex o) else (.ok (Ctl.nx ()))))) xs () >>= fun t => thenC (fun o => .ok o) (fun σ87 => ((((.ok σ13.1) >>= fun x1 => ((.ok told) >>= fun z => unO z) >>= fun x2 => N.mean_row x1 x2) >>= fun a => (.ok mean) >>= fun b => .ok (!decide (a = b))) >>= fun b => if b then .ok false else ((((.ok σ13.1) >>= fun a => Res.ok (lenL a)) >>= fun n => rangeR 0 n) >>= fun xs => foldC (fun σ93 ξ94 => (((.ok ξ94) >>= fun n => rangeR 0 n) >>= fun xs => foldC (fun σ96 ξ97 => ((((.ok σ13.1) >>= fun a => (.ok ξ94) >>= fun b => getL a b) >>= fun x1 => ((.ok σ13.1) >>= fun a => (.ok ξ97) >>= fun b => getL a b) >>= fun x2 => (((.ok σ13.2) >>= fun a => (.ok ξ97) >>= fun b => getL a b) >>= fun a => ((.ok σ13.2) >>= fun a => (.ok ξ94) >>= fun b => getL a b) >>= fun b => Res.ok (a - b)) >>= fun x3 => N.agreement x1 x2 x3) >>= fun part => ((((.ok part) >>= fun a => .ok a.1) >>= fun a => ((.ok part) >>= fun a => .ok a.2) >>= fun b => .ok (!decide (a = b))) >>= fun b => if b then .ok false >>= fun o => .ok (Ctl.ex o) else (.ok (Ctl.nx ()))))) xs () >>= fun t => thenC (fun o => .ok (Ctl.ex o)) (fun σ103 => (.ok (Ctl.nx ()))) t)) xs () >>= fun t => thenC (fun o => .ok o) (fun σ105 => .ok true) t))) t)))))) t)))))))
theorem M.law_eq : @M.law = @N.law := by
  funext script
  delta M.law
  delta N.law
  delta N.law_l6
  delta N.law_l5
  delta N.law_l4
  delta N.law_l3
  delta N.law_l2
  delta N.law_l1
  simp only [Res.bind_assoc', Res.ok_bind2, Res.bind_ok] <;> rfl
theorem sc_law : FnScope ["script", "draws", "master", "rows", "starts", "t", "start", "records", "b", "a", "k", "row", "places", "best", "told", "mean", "first", "here", "part"] ["script"] (defScope s_law) := ⟨rfl, rfl, rfl, by decide +kernel, rfl, by decide +kernel, by decide +kernel⟩
theorem ok_law {P : Program} {w : World} {K : PySem.W.Frag} {mg : Str → Option Value} {base : Heap} (bi : Bi P K mg) {fa : Addr} {fd : FuncData} (F : FunD K "law" "law" (defArgs s_law) (defBody s_law) (defScope s_law) [] [] fa fd) {f_agreement : Addr} {fd_agreement : FuncData} (C_agreement : FnC K mg "agreement" f_agreement fd_agreement ["first", "second", "shift"]) {f_best_shift : Addr} {fd_best_shift : FuncData} (C_best_shift : FnC K mg "best_shift" f_best_shift fd_best_shift ["first", "second", "least"]) {f_years : Addr} {fd_years : FuncData} (C_years : FnC K mg "years" f_years fd_years ["woods", "records"]) {f_do_fit : Addr} {fd_do_fit : FuncData} (C_do_fit : FnC K mg "do_fit" f_do_fit fd_do_fit ["woods", "records", "told"]) {f_ring : Addr} {fd_ring : FuncData} (C_ring : FnC K mg "ring" f_ring fd_ring ["woods", "records"]) {f_mean_row : Addr} {fd_mean_row : FuncData} (C_mean_row : FnC K mg "mean_row" f_mean_row fd_mean_row ["rows", "told"]) {f_cost : Addr} {fd_cost : FuncData} (C_cost : FnC K mg "cost" f_cost fd_cost ["master", "row", "price", "told"]) {f_least_laying : Addr} {fd_least_laying : FuncData} (C_least_laying : FnC K mg "least_laying" f_least_laying fd_least_laying ["master", "row", "price"]) {f_count_least : Addr} {fd_count_least : FuncData} (C_count_least : FnC K mg "count_least" f_count_least fd_count_least ["master", "row", "price"]) {f__law_draws : Addr} {fd__law_draws : FuncData} (C__law_draws : FnC K mg "_law_draws" f__law_draws fd__law_draws ["script"]) {f__law_mix : Addr} {fd__law_mix : FuncData} (C__law_mix : FnC K mg "_law_mix" f__law_mix fd__law_mix ["draws", "k", "many"]) {f__law_row : Addr} {fd__law_row : FuncData} (C__law_row : FnC K mg "_law_row" f__law_row fd__law_row ["draws", "k", "least", "most", "wide"]) (G_agreement : FnV P w K mg base 6 f_agreement fd_agreement ["first", "second", "shift"] (Rn3 N.agreement)) (G_best_shift : FnV P w K mg base 6 f_best_shift fd_best_shift ["first", "second", "least"] (Rn3 N.best_shift)) (G_years : FnV P w K mg base 5 f_years fd_years ["woods", "records"] (Rn2 N.years)) (G_do_fit : FnV P w K mg base 5 f_do_fit fd_do_fit ["woods", "records", "told"] (Rn3 N.do_fit)) (G_ring : FnV P w K mg base 5 f_ring fd_ring ["woods", "records"] (Rn2 N.ring)) (G_mean_row : FnV P w K mg base 6 f_mean_row fd_mean_row ["rows", "told"] (Rn2 N.mean_row)) (G_cost : FnV P w K mg base 7 f_cost fd_cost ["master", "row", "price", "told"] (Rn4 N.cost)) (G_least_laying : FnV P w K mg base 7 f_least_laying fd_least_laying ["master", "row", "price"] (Rn3 N.least_laying)) (G_count_least : FnV P w K mg base 7 f_count_least fd_count_least ["master", "row", "price"] (Rn3 N.count_least)) (G__law_draws : FnV P w K mg base 2 f__law_draws fd__law_draws ["script"] (Rn1 N._law_draws)) (G__law_mix : FnV P w K mg base 2 f__law_mix fd__law_mix ["draws", "k", "many"] (Rn3 N._law_mix)) (G__law_row : FnV P w K mg base 3 f__law_row fd__law_row ["draws", "k", "least", "most", "wide"] (Rn5 N._law_row)) :
    FnV P w K mg base 8 fa fd ["script"] (Rn1 N.law) := by
  rw [← M.law_eq]
  refine fn1 F sc_law rfl (by decide) fun cdv A outer s H E gr script => ?_
  have tk : Takes (defX P w K mg base ["script", "draws", "master", "rows", "starts", "t", "start", "records", "b", "a", "k", "row", "places", "best", "told", "mean", "first", "here", "part"] "law" (defScope s_law) fa cdv A outer s H E) (defW E) := takes_of rfl rfl rfl rfl
  have hp : PassesOwn (model (defX P w K mg base ["script", "draws", "master", "rows", "starts", "t", "start", "records", "b", "a", "k", "row", "places", "best", "told", "mean", "first", "here", "part"] "law" (defScope s_law) fa cdv A outer s H E).prog (defX P w K mg base ["script", "draws", "master", "rows", "starts", "t", "start", "records", "b", "a", "k", "row", "places", "best", "told", "mean", "first", "here", "part"] "law" (defScope s_law) fa cdv A outer s H E).w) (defX P w K mg base ["script", "draws", "master", "rows", "starts", "t", "start", "records", "b", "a", "k", "row", "places", "best", "told", "mean", "first", "here", "part"] "law" (defScope s_law) fa cdv A outer s H E).A (defX P w K mg base ["script", "draws", "master", "rows", "starts", "t", "start", "records", "b", "a", "k", "row", "places", "best", "told", "mean", "first", "here", "part"] "law" (defScope s_law) fa cdv A outer s H E).env (defX P w K mg base ["script", "draws", "master", "rows", "starts", "t", "start", "records", "b", "a", "k", "row", "places", "best", "told", "mean", "first", "here", "part"] "law" (defScope s_law) fa cdv A outer s H E).xe := passes_of rfl
  have hN := sc_law.nd
  unfold M.law
  refine XB.asg 1 [] (fun draws => [(1, SV.sh (toD draws))]) hN ?ex ?_
  case ex => exact (XV.fn1 (G__law_draws.mono (by decide)) C__law_draws gr tk (XV.var 0 rfl))
  intro draws
  refine XB.asg 2 [0] (fun master => [(2, SV.sh (toD master)), (1, SV.sh (toD draws))]) hN ?ex ?_
  case ex => exact (XV.fn5 (G__law_row.mono (by decide)) C__law_row gr tk (XV.var 0 rfl) XV.int XV.int XV.int (XV.idx (XF.w (XF.lst2 XV.int XV.int)) (XV.fn3 (G__law_mix.mono (by decide)) C__law_mix gr tk (XV.var 0 rfl) XV.int XV.int)))
  intro master
  refine XB.parO 3 4 [0, 1] (fun rows starts => [(4, SV.ow (toD starts)), (3, SV.ow (toD rows)), (2, SV.sh (toD master)), (1, SV.sh (toD draws))]) hN ?ex ?ey ?_
  case ex => exact XF.lst0
  case ey => exact XF.lst0
  intro rows starts
  refine XB.forS (fun (σ7 : (List (List Int)) × (List Int)) => [(3, SV.ow (toD σ7.1)), (4, SV.ow (toD σ7.2)), (2, SV.sh (toD master)), (1, SV.sh (toD draws))]) (fun (σ7 : (List (List Int)) × (List Int)) (ξ8 : Int) => [(5, SV.sh (toD ξ8)), (3, SV.ow (toD σ7.1)), (4, SV.ow (toD σ7.2)), (2, SV.sh (toD master)), (1, SV.sh (toD draws))]) hp rfl (XI.range1 bi.b_range (XV.bin o_add XV.int (XV.fn3 (G__law_mix.mono (by decide)) C__law_mix gr tk (XV.var 3 rfl) XV.int XV.int))) (fun σ7 ξ8 => (XG.name 5 [0, 1, 2, 3] hN)) ?_ (wk [1, 0, 2, 3]) ?_
  · intro σ7 ξ8
    refine XB.asg 6 [0, 1, 2, 3, 4] (fun start => [(6, SV.sh (toD start)), (5, SV.sh (toD ξ8)), (3, SV.ow (toD σ7.1)), (4, SV.ow (toD σ7.2)), (2, SV.sh (toD master)), (1, SV.sh (toD draws))]) hN ?ex ?_
    case ex => exact (XV.fn3 (G__law_mix.mono (by decide)) C__law_mix gr tk (XV.var 4 rfl) (XV.bin o_add XV.int (XV.bin o_mul XV.int (XV.var 0 rfl))) (XV.bin o_sub (XV.callB b_len (by rfl) bi.b_len (by rfl) (XV.w (XV.var 3 rfl))) XV.int))
    intro start
    refine XB.append 2 3 [0, 3, 4, 5] (fun rows => [(3, SV.ow (toD rows)), (6, SV.sh (toD start)), (4, SV.ow (toD σ7.2)), (2, SV.sh (toD master)), (1, SV.sh (toD draws))]) rfl ?ex ?_
    case ex => exact (XF.v (XF.slice (XV.w (XV.var 4 rfl)) (XO.some (XV.var 0 rfl)) (XO.some (XV.bin o_add (XV.bin o_add (XV.var 0 rfl) XV.int) (XV.fn3 (G__law_mix.mono (by decide)) C__law_mix gr tk (XV.var 5 rfl) (XV.bin o_add XV.int (XV.bin o_mul XV.int (XV.var 1 rfl))) XV.int)))))
    intro rows
    refine XB.append 2 4 [0, 3, 4] (fun starts => [(4, SV.ow (toD starts)), (3, SV.ow (toD rows)), (2, SV.sh (toD master)), (1, SV.sh (toD draws))]) rfl ?ex ?_
    case ex => exact (XV.var 1 rfl)
    intro starts
    exact XB.nilT (t := (rows, starts)) rfl (wk [1, 0, 2, 3])
  intro σ13
  refine XB.asgO 7 [0, 1, 2, 3] (fun records => [(7, SV.ow (toD records)), (3, SV.ow (toD σ13.1)), (4, SV.ow (toD σ13.2)), (2, SV.sh (toD master)), (1, SV.sh (toD draws))]) hN ?ex ?_
  case ex => exact XF.lst0
  intro records
  refine XB.forS (fun (σ15 : (List (T3 Int Int Int))) => [(7, SV.ow (toD σ15)), (3, SV.ow (toD σ13.1)), (4, SV.ow (toD σ13.2)), (2, SV.sh (toD master)), (1, SV.sh (toD draws))]) (fun (σ15 : (List (T3 Int Int Int))) (ξ16 : Int) => [(8, SV.sh (toD ξ16)), (7, SV.ow (toD σ15)), (3, SV.ow (toD σ13.1)), (4, SV.ow (toD σ13.2)), (2, SV.sh (toD master)), (1, SV.sh (toD draws))]) hp rfl (XI.range2 bi.b_range XV.int (XV.callB b_len (by rfl) bi.b_len (by rfl) (XW.own 1 rfl))) (fun σ15 ξ16 => (XG.name 8 [0, 1, 2, 3, 4] hN)) ?_ (wk [0, 1, 2, 3, 4]) ?_
  · intro σ15 ξ16
    refine XB.asg 9 [0, 1, 2, 3, 4, 5] (fun a' => [(9, SV.sh (toD a')), (8, SV.sh (toD ξ16)), (7, SV.ow (toD σ15)), (3, SV.ow (toD σ13.1)), (4, SV.ow (toD σ13.2)), (2, SV.sh (toD master)), (1, SV.sh (toD draws))]) hN ?ex ?_
    case ex => exact (XV.fn3 (G__law_mix.mono (by decide)) C__law_mix gr tk (XV.var 5 rfl) (XV.bin o_add XV.int (XV.var 0 rfl)) (XV.var 0 rfl))
    intro a'
    refine XB.append 2 7 [3, 4, 5, 6] (fun records => [(7, SV.ow (toD records)), (3, SV.ow (toD σ13.1)), (4, SV.ow (toD σ13.2)), (2, SV.sh (toD master)), (1, SV.sh (toD draws))]) rfl ?ex ?_
    case ex => exact (XV.idx (XF.w (XF.lst2 (XV.tup3 (XV.var 0 rfl) (XV.var 1 rfl) (XV.bin o_sub (XV.idx (XW.own 4 rfl) (XV.var 1 rfl)) (XV.idx (XW.own 4 rfl) (XV.var 0 rfl)))) (XV.tup3 (XV.var 1 rfl) (XV.var 0 rfl) (XV.bin o_sub (XV.idx (XW.own 4 rfl) (XV.var 0 rfl)) (XV.idx (XW.own 4 rfl) (XV.var 1 rfl)))))) (XV.fn3 (G__law_mix.mono (by decide)) C__law_mix gr tk (XV.var 6 rfl) (XV.bin o_add XV.int (XV.var 1 rfl)) XV.int))
    intro records
    exact XB.nilT (t := records) rfl (wk [0, 1, 2, 3, 4])
  intro σ28
  refine XB.forC (ω := fun o => .rt (toD (o : Bool))) (fun o => o) (fun (σ30 : Unit) => [(7, SV.ow (toD σ28)), (3, SV.ow (toD σ13.1)), (4, SV.ow (toD σ13.2)), (2, SV.sh (toD master))]) (fun (σ30 : Unit) (ξ31 : Int) => [(10, SV.sh (toD ξ31)), (7, SV.ow (toD σ28)), (3, SV.ow (toD σ13.1)), (4, SV.ow (toD σ13.2)), (2, SV.sh (toD master))]) hp rfl (fun _ => rfl) (fun _ _ h => by cases h) (fun _ _ h => by cases h) (XI.range1 bi.b_range (XV.callB b_len (by rfl) bi.b_len (by rfl) (XW.own 1 rfl))) (fun σ30 ξ31 => (XG.name 10 [0, 1, 2, 3] hN)) ?_ (wk [0, 1, 2, 3]) ?_
  · intro σ30 ξ31
    refine XB.par2 11 6 [1, 2, 3, 4] (fun α34 α35 => [(6, SV.sh (toD α35)), (11, SV.sh (toD α34)), (7, SV.ow (toD σ28)), (3, SV.ow (toD σ13.1)), (4, SV.ow (toD σ13.2)), (2, SV.sh (toD master))]) hN ?ex ?ey ?_
    case ex => exact (XV.idx (XW.own 2 rfl) (XV.var 0 rfl))
    case ey => exact (XV.idx (XW.own 3 rfl) (XV.var 0 rfl))
    intro α34 α35
    refine XB.asg 12 [0, 1, 2, 3, 4, 5] (fun places => [(12, SV.sh (toD places)), (6, SV.sh (toD α35)), (11, SV.sh (toD α34)), (7, SV.ow (toD σ28)), (3, SV.ow (toD σ13.1)), (4, SV.ow (toD σ13.2)), (2, SV.sh (toD master))]) hN ?ex ?_
    case ex => exact (XF.v (XF.listR2 rfl bi.b_list bi.b_range (XV.var 0 rfl) (XV.bin o_add (XV.var 0 rfl) (XV.callB b_len (by rfl) bi.b_len (by rfl) (XV.w (XV.var 1 rfl))))))
    intro places
    refine XB.ifE (ω := fun o => .rt (toD o)) (fun o => Ctl.ex o) (fun _ => rfl) (fun _ _ h => by cases h) ?tst ?_ ?_
    case tst => exact (XT.pw (XT.or (XT.cmp (c_ne (α := (Int × Int)) gr.r) (XV.w (XV.fn3 (G_agreement.mono (by decide)) C_agreement gr tk (XV.var 6 rfl) (XV.var 2 rfl) (XV.var 1 rfl))) (XV.w (XV.tup2 (XV.bin o_sub (XV.callB b_len (by rfl) bi.b_len (by rfl) (XV.w (XV.var 2 rfl))) XV.int) (XV.bin o_sub (XV.callB b_len (by rfl) bi.b_len (by rfl) (XV.w (XV.var 2 rfl))) XV.int)))) (XT.or1 (XT.cmp (c_ne (α := (Option Int)) gr.r) (XV.w (XV.fn4 (G_cost.mono (by decide)) C_cost gr tk (XV.var 6 rfl) (XV.var 2 rfl) XV.int (XV.var 0 rfl))) (XV.w (XV.someC XV.int))))))
    · skip
      exact XB.ret XV.bool
    · skip
      refine XB.ifE (ω := fun o => .rt (toD o)) (fun o => Ctl.ex o) (fun _ => rfl) (fun _ _ h => by cases h) ?tst ?_ ?_
      case tst => exact (XT.pw (XT.or (XT.cmp (c_ne (α := Int) gr.r) (XV.w (XV.item (k := 0) (fun a : (Int × (List Int)) => a.1) (fun _ => ⟨_, rfl, rfl⟩) (XV.w (XV.fn3 (G_least_laying.mono (by decide)) C_least_laying gr tk (XV.var 6 rfl) (XV.var 2 rfl) XV.int)))) (XV.w XV.int)) (XT.or1 (XT.cmp c_lt (XV.w (XV.fn3 (G_count_least.mono (by decide)) C_count_least gr tk (XV.var 6 rfl) (XV.var 2 rfl) XV.int)) (XV.w XV.int)))))
      · skip
        exact XB.ret XV.bool
      · skip
        refine XB.asg 13 [1, 2, 3, 4, 5, 6] (fun best => [(13, SV.sh (toD best)), (6, SV.sh (toD α35)), (11, SV.sh (toD α34)), (7, SV.ow (toD σ28)), (3, SV.ow (toD σ13.1)), (4, SV.ow (toD σ13.2)), (2, SV.sh (toD master))]) hN ?ex ?_
        case ex => exact (XV.fn3 (G_best_shift.mono (by decide)) C_best_shift gr tk (XV.var 6 rfl) (XV.var 2 rfl) (XV.bin o_sub (XV.callB b_len (by rfl) bi.b_len (by rfl) (XV.w (XV.var 2 rfl))) XV.int))
        intro best
        refine XB.ifE (ω := fun o => .rt (toD o)) (fun o => Ctl.ex o) (fun _ => rfl) (fun _ _ h => by cases h) ?tst ?_ ?_
        case tst => exact (XT.pw (XT.or (XT.isN (XV.w (XV.var 0 rfl))) (XT.or (XT.cmp (c_ne (α := (Int × Int)) gr.r) (XV.w (XV.fn3 (G_agreement.mono (by decide)) C_agreement gr tk (XV.var 6 rfl) (XV.var 2 rfl) (XV.unO (XV.var 0 rfl)))) (XV.w (XV.tup2 (XV.bin o_sub (XV.callB b_len (by rfl) bi.b_len (by rfl) (XV.w (XV.var 2 rfl))) XV.int) (XV.bin o_sub (XV.callB b_len (by rfl) bi.b_len (by rfl) (XV.w (XV.var 2 rfl))) XV.int)))) (XT.or1 (XT.cmp c_gt (XV.w (XV.unO (XV.var 0 rfl))) (XV.w (XV.var 1 rfl)))))))
        · skip
          exact XB.ret XV.bool
        · skip
          exact XB.nilT (t := Ctl.nx ()) rfl (wk [3, 4, 5, 6])
  intro σ55
  refine XB.freeze (x := σ28) 0 7 [1, 2, 3] [(7, SV.sh (toD σ28)), (3, SV.ow (toD σ13.1)), (4, SV.ow (toD σ13.2)), (2, SV.sh (toD master))] rfl ?_
  refine XB.asg 14 [0, 1, 2, 3] (fun told => [(14, SV.sh (toD told)), (7, SV.sh (toD σ28)), (3, SV.ow (toD σ13.1)), (4, SV.ow (toD σ13.2)), (2, SV.sh (toD master))]) hN ?ex ?_
  case ex => exact (XV.fn2 (G_years.mono (by decide)) C_years gr tk (XV.callB b_len (by rfl) bi.b_len (by rfl) (XW.own 1 rfl)) (XV.var 0 rfl))
  intro told
  refine XB.freeze (x := σ13.2) 3 4 [0, 1, 2, 4] [(4, SV.sh (toD σ13.2)), (14, SV.sh (toD told)), (7, SV.sh (toD σ28)), (3, SV.ow (toD σ13.1)), (2, SV.sh (toD master))] rfl ?_
  refine XB.ifR ?tst ?_ ?_ (by intro t h ρ2 h2; cases h2)
  case tst => exact (XT.pw (XT.or (XT.isN (XV.w (XV.var 1 rfl))) (XT.or (XT.notN (XV.w (XV.fn2 (G_ring.mono (by decide)) C_ring gr tk (XV.callB b_len (by rfl) bi.b_len (by rfl) (XW.own 3 rfl)) (XV.var 2 rfl)))) (XT.or (XT.cmp (c_ne (α := (Option (List Int))) gr.r) (XV.w (XV.var 1 rfl)) (XV.w (XV.someC (XF.v (XF.lc [("start", 6)] [0, 1, 2, 3, 4] [(4, SV.sh (toD σ13.2)), (14, SV.sh (toD told)), (7, SV.sh (toD σ28)), (3, SV.ow (toD σ13.1)), (2, SV.sh (toD master))] (fun ξ62 => [(6, SV.sh (toD ξ62)), (4, SV.sh (toD σ13.2)), (14, SV.sh (toD told)), (7, SV.sh (toD σ28)), (3, SV.ow (toD σ13.1)), (2, SV.sh (toD master))]) rfl hN (XI.list (XV.var 0 rfl)) (by rfl) (fun ξ62 _ _ _ _ _ => (XG.name 6 [0, 1, 2, 3, 4] hN)) (fun ξ62 _ _ _ _ _ => XTs.nil) (fun ξ62 _ _ _ _ _ => (XV.bin o_sub (XV.var 0 rfl) (XV.idx (XV.w (XV.var 1 rfl)) XV.int)))))))) (XT.or1 (XT.cmp c_isNotB (XV.w (XV.fn3 (G_do_fit.mono (by decide)) C_do_fit gr tk (XV.callB b_len (by rfl) bi.b_len (by rfl) (XW.own 3 rfl)) (XV.var 2 rfl) (XV.var 0 rfl))) (XV.w XV.bool)))))))
  · skip
    exact XB.ret XV.bool
  · skip
    refine XB.freeze (x := σ13.1) 3 3 [0, 1, 2, 4] [(3, SV.sh (toD σ13.1)), (4, SV.sh (toD σ13.2)), (14, SV.sh (toD told)), (7, SV.sh (toD σ28)), (2, SV.sh (toD master))] rfl ?_
    refine XB.asg 15 [0, 1, 2, 4] (fun mean => [(15, SV.sh (toD mean)), (3, SV.sh (toD σ13.1)), (4, SV.sh (toD σ13.2)), (14, SV.sh (toD told)), (2, SV.sh (toD master))]) hN ?ex ?_
    case ex => exact (XV.fn2 (G_mean_row.mono (by decide)) C_mean_row gr tk (XV.var 0 rfl) (XV.var 1 rfl))
    intro mean
    refine XB.asg 16 [0, 1, 2, 3, 4] (fun first => [(16, SV.sh (toD first)), (15, SV.sh (toD mean)), (3, SV.sh (toD σ13.1)), (4, SV.sh (toD σ13.2)), (14, SV.sh (toD told)), (2, SV.sh (toD master))]) hN ?ex ?_
    case ex => exact (XV.callB (b_min rfl) (by rfl) bi.b_min (by rfl) (XV.w (XV.var 2 rfl)))
    intro first
    refine XB.forC (ω := fun o => .rt (toD (o : Bool))) (fun o => o) (fun (σ72 : Unit) => [(16, SV.sh (toD first)), (15, SV.sh (toD mean)), (3, SV.sh (toD σ13.1)), (4, SV.sh (toD σ13.2)), (14, SV.sh (toD told)), (2, SV.sh (toD master))]) (fun (σ72 : Unit) (ξ73 : Int) => [(5, SV.sh (toD ξ73)), (16, SV.sh (toD first)), (15, SV.sh (toD mean)), (3, SV.sh (toD σ13.1)), (4, SV.sh (toD σ13.2)), (14, SV.sh (toD told)), (2, SV.sh (toD master))]) hp rfl (fun _ => rfl) (fun _ _ h => by cases h) (fun _ _ h => by cases h) (XI.range1 bi.b_range (XV.callB b_len (by rfl) bi.b_len (by rfl) (XV.w (XV.var 1 rfl)))) (fun σ72 ξ73 => (XG.name 5 [0, 1, 2, 3, 4, 5] hN)) ?_ (wk [0, 1, 2, 3, 4, 5]) ?_
    · intro σ72 ξ73
      refine XB.asgLc (is := [10]) 17 [("k", 10)] [0, 1, 2, 3, 4, 5, 6] [0, 1, 2, 3, 4, 5, 6] [(5, SV.sh (toD ξ73)), (16, SV.sh (toD first)), (15, SV.sh (toD mean)), (3, SV.sh (toD σ13.1)), (4, SV.sh (toD σ13.2)), (14, SV.sh (toD told)), (2, SV.sh (toD master))] (fun ξ75 => [(10, SV.sh (toD ξ75)), (5, SV.sh (toD ξ73)), (16, SV.sh (toD first)), (15, SV.sh (toD mean)), (3, SV.sh (toD σ13.1)), (4, SV.sh (toD σ13.2)), (14, SV.sh (toD told)), (2, SV.sh (toD master))]) (fun here => [(17, SV.ow (toD here)), (5, SV.sh (toD ξ73)), (16, SV.sh (toD first)), (15, SV.sh (toD mean)), (3, SV.sh (toD σ13.1)), (4, SV.sh (toD σ13.2)), (14, SV.sh (toD told)), (2, SV.sh (toD master))]) rfl hN ?hi (by rfl) ?hg ?ht ?he ?_ (by rfl)
      case hi => exact (XI.range1 bi.b_range (XV.callB b_len (by rfl) bi.b_len (by rfl) (XV.w (XV.var 3 rfl))))
      case hg => exact (fun ξ75 _ _ _ _ _ => (XG.name 10 [0, 1, 2, 3, 4, 5, 6] hN))
      case ht => exact (fun ξ75 _ _ _ _ _ => (XTs.one (XT.chain c_le c_lt (XV.w XV.int) (XV.w (XV.bin o_sub (XV.bin o_add (XV.var 2 rfl) (XV.var 1 rfl)) (XV.idx (XV.w (XV.var 5 rfl)) (XV.var 0 rfl)))) (XV.w (XV.callB b_len (by rfl) bi.b_len (by rfl) (XV.w (XV.idx (XV.w (XV.var 4 rfl)) (XV.var 0 rfl))))))))
      case he => exact (fun ξ75 _ _ _ _ _ => (XV.var 0 rfl))
      intro here
      refine XB.ifE (ω := fun o => .rt (toD o)) (fun o => Ctl.ex o) (fun _ => rfl) (fun _ _ h => by cases h) ?tst ?_ ?_
      case tst => exact (XT.cmp (c_ne (α := (Option (Int × Int))) gr.r) (XV.w (XV.idx (XV.w (XV.var 3 rfl)) (XV.var 1 rfl))) (XV.w (XV.idx (XF.w (XF.lst2 XV.noneC (XV.someC (XV.tup2 (XV.idx (XV.w (XV.var 7 rfl)) (XV.bin o_add (XV.var 2 rfl) (XV.var 1 rfl))) XV.int)))) (XV.callT b_intB (by rfl) bi.b_int (by rfl) (XV.w (XV.cmp (c_ne (α := (List Int)) gr.r) (XW.own 0 rfl) (XF.w XF.lst0)))))))
      · skip
        exact XB.ret XV.bool
      · skip
        exact XB.nilT (t := Ctl.nx ()) rfl (wk [2, 3, 4, 5, 6, 7])
    intro σ87
    refine XB.ifR ?tst ?_ ?_ (by intro t h ρ2 h2; cases h2)
    case tst => exact (XT.cmp (c_ne (α := (List (Option (Int × Int)))) gr.r) (XV.w (XV.fn2 (G_mean_row.mono (by decide)) C_mean_row gr tk (XV.var 2 rfl) (XV.unO (XV.var 4 rfl)))) (XV.w (XV.var 1 rfl)))
    · skip
      exact XB.ret XV.bool
    · skip
      refine XB.forC (ω := fun o => .rt (toD (o : Bool))) (fun o => o) (fun (σ93 : Unit) => [(3, SV.sh (toD σ13.1)), (4, SV.sh (toD σ13.2))]) (fun (σ93 : Unit) (ξ94 : Int) => [(9, SV.sh (toD ξ94)), (3, SV.sh (toD σ13.1)), (4, SV.sh (toD σ13.2))]) hp rfl (fun _ => rfl) (fun _ _ h => by cases h) (fun _ _ h => by cases h) (XI.range1 bi.b_range (XV.callB b_len (by rfl) bi.b_len (by rfl) (XV.w (XV.var 2 rfl)))) (fun σ93 ξ94 => (XG.name 9 [0, 1] hN)) ?_ (wk [2, 3]) ?_
      · intro σ93 ξ94
        refine XB.forC (ω := fun o => .rt (toD (o : Bool))) (fun o => Ctl.ex o) (fun (σ96 : Unit) => [(9, SV.sh (toD ξ94)), (3, SV.sh (toD σ13.1)), (4, SV.sh (toD σ13.2))]) (fun (σ96 : Unit) (ξ97 : Int) => [(8, SV.sh (toD ξ97)), (9, SV.sh (toD ξ94)), (3, SV.sh (toD σ13.1)), (4, SV.sh (toD σ13.2))]) hp rfl (fun _ => rfl) (fun _ _ h => by cases h) (fun _ _ h => by cases h) (XI.range1 bi.b_range (XV.var 0 rfl)) (fun σ96 ξ97 => (XG.name 8 [0, 1, 2] hN)) ?_ (wk [0, 1, 2]) ?_
        · intro σ96 ξ97
          refine XB.asg 18 [1, 2, 3] (fun part => [(18, SV.sh (toD part)), (9, SV.sh (toD ξ94)), (3, SV.sh (toD σ13.1)), (4, SV.sh (toD σ13.2))]) hN ?ex ?_
          case ex => exact (XV.fn3 (G_agreement.mono (by decide)) C_agreement gr tk (XV.idx (XV.w (XV.var 2 rfl)) (XV.var 1 rfl)) (XV.idx (XV.w (XV.var 2 rfl)) (XV.var 0 rfl)) (XV.bin o_sub (XV.idx (XV.w (XV.var 3 rfl)) (XV.var 0 rfl)) (XV.idx (XV.w (XV.var 3 rfl)) (XV.var 1 rfl))))
          intro part
          refine XB.ifE (ω := fun o => .rt (toD o)) (fun o => Ctl.ex o) (fun _ => rfl) (fun _ _ h => by cases h) ?tst ?_ ?_
          case tst => exact (XT.cmp (c_ne (α := Int) gr.r) (XV.w (XV.item (k := 0) (fun a : (Int × Int) => a.1) (fun _ => ⟨_, rfl, rfl⟩) (XV.w (XV.var 0 rfl)))) (XV.w (XV.item (k := 1) (fun a : (Int × Int) => a.2) (fun _ => ⟨_, rfl, rfl⟩) (XV.w (XV.var 0 rfl)))))
          · skip
            exact XB.ret XV.bool
          · skip
            exact XB.nilT (t := Ctl.nx ()) rfl (wk [1, 2, 3])
        intro σ103
        exact XB.nilT (t := Ctl.nx ()) rfl (wk [1, 2])
      intro σ105
      exact XB.ret XV.bool
end Law
end
section
set_option Elab.async false
set_option linter.all false
set_option maxRecDepth 100000
set_option maxHeartbeats 0
namespace Law
open Vs.Enc (toD)
section head
open PySem PySem.Spec PyProof.Rows L2 Vs
def d_fraction : He.DefD := ⟨("fraction", none), "fraction", "fraction", defArgs s_fraction, defBody s_fraction, defScope s_fraction, [], []⟩
def d_check_row : He.DefD := ⟨("check_row", none), "check_row", "check_row", defArgs s_check_row, defBody s_check_row, defScope s_check_row, [], []⟩
def d_check_rows : He.DefD := ⟨("check_rows", none), "check_rows", "check_rows", defArgs s_check_rows, defBody s_check_rows, defScope s_check_rows, [], []⟩
def d_rises_of : He.DefD := ⟨("rises_of", none), "rises_of", "rises_of", defArgs s_rises_of, defBody s_rises_of, defScope s_rises_of, [], []⟩
def d_agreement_of : He.DefD := ⟨("agreement_of", none), "agreement_of", "agreement_of", defArgs s_agreement_of, defBody s_agreement_of, defScope s_agreement_of, [], []⟩
def d_agreement : He.DefD := ⟨("agreement", none), "agreement", "agreement", defArgs s_agreement, defBody s_agreement, defScope s_agreement, [], []⟩
def d_is_better : He.DefD := ⟨("is_better", none), "is_better", "is_better", defArgs s_is_better, defBody s_is_better, defScope s_is_better, [], []⟩
def d_best_shift : He.DefD := ⟨("best_shift", none), "best_shift", "best_shift", defArgs s_best_shift, defBody s_best_shift, defScope s_best_shift, [], []⟩
def d_check_records : He.DefD := ⟨("check_records", none), "check_records", "check_records", defArgs s_check_records, defBody s_check_records, defScope s_check_records, [], []⟩
def d_steps_of : He.DefD := ⟨("steps_of", none), "steps_of", "steps_of", defArgs s_steps_of, defBody s_steps_of, defScope s_steps_of, [], []⟩
def d_told_years : He.DefD := ⟨("told_years", none), "told_years", "told_years", defArgs s_told_years, defBody s_told_years, defScope s_told_years, [], []⟩
def d_unlike_record : He.DefD := ⟨("unlike_record", none), "unlike_record", "unlike_record", defArgs s_unlike_record, defBody s_unlike_record, defScope s_unlike_record, [], []⟩
def d_years : He.DefD := ⟨("years", none), "years", "years", defArgs s_years, defBody s_years, defScope s_years, [], []⟩
def d_do_fit : He.DefD := ⟨("do_fit", none), "do_fit", "do_fit", defArgs s_do_fit, defBody s_do_fit, defScope s_do_fit, [], []⟩
def d_ring : He.DefD := ⟨("ring", none), "ring", "ring", defArgs s_ring, defBody s_ring, defScope s_ring, [], []⟩
def d_is_row : He.DefD := ⟨("is_row", none), "is_row", "is_row", defArgs s_is_row, defBody s_is_row, defScope s_is_row, [], []⟩
def d_mean_row : He.DefD := ⟨("mean_row", none), "mean_row", "mean_row", defArgs s_mean_row, defBody s_mean_row, defScope s_mean_row, [], []⟩
def d_check_laid : He.DefD := ⟨("check_laid", none), "check_laid", "check_laid", defArgs s_check_laid, defBody s_check_laid, defScope s_check_laid, [], []⟩
def d_cost : He.DefD := ⟨("cost", none), "cost", "cost", defArgs s_cost, defBody s_cost, defScope s_cost, [], []⟩
def d_tables_of : He.DefD := ⟨("tables_of", none), "tables_of", "tables_of", defArgs s_tables_of, defBody s_tables_of, defScope s_tables_of, [], []⟩
def d_best_behind : He.DefD := ⟨("best_behind", none), "best_behind", "best_behind", defArgs s_best_behind, defBody s_best_behind, defScope s_best_behind, [], []⟩
def d_least_laying : He.DefD := ⟨("least_laying", none), "least_laying", "least_laying", defArgs s_least_laying, defBody s_least_laying, defScope s_least_laying, [], []⟩
def d_count_least : He.DefD := ⟨("count_least", none), "count_least", "count_least", defArgs s_count_least, defBody s_count_least, defScope s_count_least, [], []⟩
def d__law_draws : He.DefD := ⟨("_law_draws", none), "_law_draws", "_law_draws", defArgs s__law_draws, defBody s__law_draws, defScope s__law_draws, [], []⟩
def d__law_mix : He.DefD := ⟨("_law_mix", none), "_law_mix", "_law_mix", defArgs s__law_mix, defBody s__law_mix, defScope s__law_mix, [], []⟩
def d__law_row : He.DefD := ⟨("_law_row", none), "_law_row", "_law_row", defArgs s__law_row, defBody s__law_row, defScope s__law_row, [], []⟩
def d_law : He.DefD := ⟨("law", none), "law", "law", defArgs s_law, defBody s_law, defScope s_law, [], []⟩
def fn : List He.DefD := [d_fraction, d_check_row, d_check_rows, d_rises_of, d_agreement_of, d_agreement, d_is_better, d_best_shift, d_check_records, d_steps_of, d_told_years, d_unlike_record, d_years, d_do_fit, d_ring, d_is_row, d_mean_row, d_check_laid, d_cost, d_tables_of, d_best_behind, d_least_laying, d_count_least, d__law_draws, d__law_mix, d__law_row, d_law]
def fa : List He.Fa := [.glo "fraction", .glo "check_row", .glo "check_rows", .glo "rises_of", .glo "agreement_of", .glo "agreement", .glo "is_better", .glo "best_shift", .glo "check_records", .glo "steps_of", .glo "told_years", .glo "unlike_record", .glo "years", .glo "do_fit", .glo "ring", .glo "is_row", .glo "mean_row", .glo "check_laid", .glo "cost", .glo "tables_of", .glo "best_behind", .glo "least_laying", .glo "count_least", .glo "_law_draws", .glo "_law_mix", .glo "_law_row", .glo "law", .glo "DigError", .int "LEAST_RINGS" 2, .int "MOST_RINGS" 40, .int "MOST_WIDTH" 1000, .int "MOST_WOODS" 10, .int "MOST_RECORDS" 30, .int "MOST_SHIFT" 1000, .int "MOST_ROWS" 10, .int "MOST_PRICE" 1000000, .free "abs", .free "all", .free "enumerate", .free "int", .free "len", .free "list", .free "max", .free "min", .free "range", .free "reversed", .free "sum", .free "zip", .exm "OutOfRange" "OutOfRange" true, .exm "OutOfRange" "TooMany" false, .exm "OutOfRange" "TooLarge" false, .exm "OutOfRange" "WrongSize" false, .exm "OutOfRange" "BadRecord" false, .exm "OutOfRange" "BadRow" false, .exm "OutOfRange" "BadWidth" false, .exm "OutOfRange" "BadPrice" false, .exm "OutOfRange" "BadYear" false, .exm "TooMany" "OutOfRange" false, .exm "TooMany" "TooMany" true, .exm "TooMany" "TooLarge" false, .exm "TooMany" "WrongSize" false, .exm "TooMany" "BadRecord" false, .exm "TooMany" "BadRow" false, .exm "TooMany" "BadWidth" false, .exm "TooMany" "BadPrice" false, .exm "TooMany" "BadYear" false, .exm "TooLarge" "OutOfRange" false, .exm "TooLarge" "TooMany" false, .exm "TooLarge" "TooLarge" true, .exm "TooLarge" "WrongSize" false, .exm "TooLarge" "BadRecord" false, .exm "TooLarge" "BadRow" false, .exm "TooLarge" "BadWidth" false, .exm "TooLarge" "BadPrice" false, .exm "TooLarge" "BadYear" false, .exm "WrongSize" "OutOfRange" false, .exm "WrongSize" "TooMany" false, .exm "WrongSize" "TooLarge" false, .exm "WrongSize" "WrongSize" true, .exm "WrongSize" "BadRecord" false, .exm "WrongSize" "BadRow" false, .exm "WrongSize" "BadWidth" false, .exm "WrongSize" "BadPrice" false, .exm "WrongSize" "BadYear" false, .exm "BadRecord" "OutOfRange" false, .exm "BadRecord" "TooMany" false, .exm "BadRecord" "TooLarge" false, .exm "BadRecord" "WrongSize" false, .exm "BadRecord" "BadRecord" true, .exm "BadRecord" "BadRow" false, .exm "BadRecord" "BadWidth" false, .exm "BadRecord" "BadPrice" false, .exm "BadRecord" "BadYear" false, .exm "BadRow" "OutOfRange" false, .exm "BadRow" "TooMany" false, .exm "BadRow" "TooLarge" false, .exm "BadRow" "WrongSize" false, .exm "BadRow" "BadRecord" false, .exm "BadRow" "BadRow" true, .exm "BadRow" "BadWidth" false, .exm "BadRow" "BadPrice" false, .exm "BadRow" "BadYear" false, .exm "BadWidth" "OutOfRange" false, .exm "BadWidth" "TooMany" false, .exm "BadWidth" "TooLarge" false, .exm "BadWidth" "WrongSize" false, .exm "BadWidth" "BadRecord" false, .exm "BadWidth" "BadRow" false, .exm "BadWidth" "BadWidth" true, .exm "BadWidth" "BadPrice" false, .exm "BadWidth" "BadYear" false, .exm "BadPrice" "OutOfRange" false, .exm "BadPrice" "TooMany" false, .exm "BadPrice" "TooLarge" false, .exm "BadPrice" "WrongSize" false, .exm "BadPrice" "BadRecord" false, .exm "BadPrice" "BadRow" false, .exm "BadPrice" "BadWidth" false, .exm "BadPrice" "BadPrice" true, .exm "BadPrice" "BadYear" false, .exm "BadYear" "OutOfRange" false, .exm "BadYear" "TooMany" false, .exm "BadYear" "TooLarge" false, .exm "BadYear" "WrongSize" false, .exm "BadYear" "BadRecord" false, .exm "BadYear" "BadRow" false, .exm "BadYear" "BadWidth" false, .exm "BadYear" "BadPrice" false, .exm "BadYear" "BadYear" true, .exm "OutOfRange" "DigError" true, .exm "TooMany" "DigError" true, .exm "TooLarge" "DigError" true, .exm "WrongSize" "DigError" true, .exm "BadRecord" "DigError" true, .exm "BadRow" "DigError" true, .exm "BadWidth" "DigError" true, .exm "BadPrice" "DigError" true, .exm "BadYear" "DigError" true]
def ex (K : PySem.W.Frag) : Bool := (kn.all fun c => digB PySem.Challenge.rw_dugtold_k94_whole_woods_of_one_master.prog.main.file K "DigError" c) && He.eqO (PySem.W.nsIn K mainGlobals "gcd") (some (some (.builtin "math.gcd")))
abbrev R : PySem.W.OpenRow := PySem.W.OpenLaw.row PySem.Challenge.rw_dugtold_k94_whole_woods_of_one_master
abbrev hk : PySem.W.Hook := hookY 5 fa fn ex
def ob (s : PySem.W.SharedT) : AlY := obsY 5 fa fn ex (HandSHeadRun.getT s)
theorem ob_eq (s : PySem.W.SharedT) : ob s = hk.obs s.abs := obsY_eq (HandSHeadRun.getT_eq s)
theorem run (w : World) : HandSHeadRun.RunEqI R (PySem.W.view R.prog [0, 51]) hk ob 4000 ("DigError" :: "OutOfRange" :: "TooMany" :: "TooLarge" :: "WrongSize" :: "BadRecord" :: "BadRow" :: "BadWidth" :: "BadPrice" :: "BadYear" :: "fraction" :: "LEAST_RINGS" :: "MOST_RINGS" :: "MOST_WIDTH" :: "check_row" :: "check_rows" :: "rises_of" :: "agreement_of" :: "agreement" :: "is_better" :: "best_shift" :: "MOST_WOODS" :: "MOST_RECORDS" :: "MOST_SHIFT" :: "MOST_ROWS" :: "check_records" :: "steps_of" :: "told_years" :: "unlike_record" :: "years" :: "do_fit" :: "ring" :: "is_row" :: "mean_row" :: "MOST_PRICE" :: "check_laid" :: "cost" :: "tables_of" :: "best_behind" :: "least_laying" :: "count_least" :: "_law_draws" :: "_law_mix" :: "_law_row" :: []) w := by
  unfold HandSHeadRun.RunEqI
  kernel_rfl
theorem facts {P : Program} {w : World} {K : PySem.W.Frag} {h : Heap} {mg : Str → Option Value} {f : Addr} (hP : P.main.file = PySem.Challenge.rw_dugtold_k94_whole_woods_of_one_master.prog.main.file) (hT : (P.main.scope.names.lookup ("super" : Str)).isSome = false) (X : K.In h) (G : h.Ns mainGlobals mg) (hfa : mg ("law" : Str) = some (.ref f)) (cx : SaysY fa fn ex w K) :
    ∃ fd : FuncData, (∀ (s : Shared) (v : Value), BindsTo s fd ⟨[v], []⟩ [("script", v)]) ∧ ∀ base : Heap, K.In base → base.Ns mainGlobals mg → FnV P w K mg base 8 f fd ["script"] (Rn1 N.law) := by
  have c := cx.t.d
  have exm : Exm K kn := by
    intro a ha b hb
    simp only [kn, List.mem_cons, List.not_mem_nil, or_false] at ha hb
    rcases ha with rfl | rfl | rfl | rfl | rfl | rfl | rfl | rfl | rfl <;> rcases hb with rfl | rfl | rfl | rfl | rfl | rfl | rfl | rfl | rfl
    · exact of_decide_eq_true (c.fact 48 (f := .exm "OutOfRange" "OutOfRange" true) rfl)
    · exact of_decide_eq_true (c.fact 49 (f := .exm "OutOfRange" "TooMany" false) rfl)
    · exact of_decide_eq_true (c.fact 50 (f := .exm "OutOfRange" "TooLarge" false) rfl)
    · exact of_decide_eq_true (c.fact 51 (f := .exm "OutOfRange" "WrongSize" false) rfl)
    · exact of_decide_eq_true (c.fact 52 (f := .exm "OutOfRange" "BadRecord" false) rfl)
    · exact of_decide_eq_true (c.fact 53 (f := .exm "OutOfRange" "BadRow" false) rfl)
    · exact of_decide_eq_true (c.fact 54 (f := .exm "OutOfRange" "BadWidth" false) rfl)
    · exact of_decide_eq_true (c.fact 55 (f := .exm "OutOfRange" "BadPrice" false) rfl)
    · exact of_decide_eq_true (c.fact 56 (f := .exm "OutOfRange" "BadYear" false) rfl)
    · exact of_decide_eq_true (c.fact 57 (f := .exm "TooMany" "OutOfRange" false) rfl)
    · exact of_decide_eq_true (c.fact 58 (f := .exm "TooMany" "TooMany" true) rfl)
    · exact of_decide_eq_true (c.fact 59 (f := .exm "TooMany" "TooLarge" false) rfl)
    · exact of_decide_eq_true (c.fact 60 (f := .exm "TooMany" "WrongSize" false) rfl)
    · exact of_decide_eq_true (c.fact 61 (f := .exm "TooMany" "BadRecord" false) rfl)
    · exact of_decide_eq_true (c.fact 62 (f := .exm "TooMany" "BadRow" false) rfl)
    · exact of_decide_eq_true (c.fact 63 (f := .exm "TooMany" "BadWidth" false) rfl)
    · exact of_decide_eq_true (c.fact 64 (f := .exm "TooMany" "BadPrice" false) rfl)
    · exact of_decide_eq_true (c.fact 65 (f := .exm "TooMany" "BadYear" false) rfl)
    · exact of_decide_eq_true (c.fact 66 (f := .exm "TooLarge" "OutOfRange" false) rfl)
    · exact of_decide_eq_true (c.fact 67 (f := .exm "TooLarge" "TooMany" false) rfl)
    · exact of_decide_eq_true (c.fact 68 (f := .exm "TooLarge" "TooLarge" true) rfl)
    · exact of_decide_eq_true (c.fact 69 (f := .exm "TooLarge" "WrongSize" false) rfl)
    · exact of_decide_eq_true (c.fact 70 (f := .exm "TooLarge" "BadRecord" false) rfl)
    · exact of_decide_eq_true (c.fact 71 (f := .exm "TooLarge" "BadRow" false) rfl)
    · exact of_decide_eq_true (c.fact 72 (f := .exm "TooLarge" "BadWidth" false) rfl)
    · exact of_decide_eq_true (c.fact 73 (f := .exm "TooLarge" "BadPrice" false) rfl)
    · exact of_decide_eq_true (c.fact 74 (f := .exm "TooLarge" "BadYear" false) rfl)
    · exact of_decide_eq_true (c.fact 75 (f := .exm "WrongSize" "OutOfRange" false) rfl)
    · exact of_decide_eq_true (c.fact 76 (f := .exm "WrongSize" "TooMany" false) rfl)
    · exact of_decide_eq_true (c.fact 77 (f := .exm "WrongSize" "TooLarge" false) rfl)
    · exact of_decide_eq_true (c.fact 78 (f := .exm "WrongSize" "WrongSize" true) rfl)
    · exact of_decide_eq_true (c.fact 79 (f := .exm "WrongSize" "BadRecord" false) rfl)
    · exact of_decide_eq_true (c.fact 80 (f := .exm "WrongSize" "BadRow" false) rfl)
    · exact of_decide_eq_true (c.fact 81 (f := .exm "WrongSize" "BadWidth" false) rfl)
    · exact of_decide_eq_true (c.fact 82 (f := .exm "WrongSize" "BadPrice" false) rfl)
    · exact of_decide_eq_true (c.fact 83 (f := .exm "WrongSize" "BadYear" false) rfl)
    · exact of_decide_eq_true (c.fact 84 (f := .exm "BadRecord" "OutOfRange" false) rfl)
    · exact of_decide_eq_true (c.fact 85 (f := .exm "BadRecord" "TooMany" false) rfl)
    · exact of_decide_eq_true (c.fact 86 (f := .exm "BadRecord" "TooLarge" false) rfl)
    · exact of_decide_eq_true (c.fact 87 (f := .exm "BadRecord" "WrongSize" false) rfl)
    · exact of_decide_eq_true (c.fact 88 (f := .exm "BadRecord" "BadRecord" true) rfl)
    · exact of_decide_eq_true (c.fact 89 (f := .exm "BadRecord" "BadRow" false) rfl)
    · exact of_decide_eq_true (c.fact 90 (f := .exm "BadRecord" "BadWidth" false) rfl)
    · exact of_decide_eq_true (c.fact 91 (f := .exm "BadRecord" "BadPrice" false) rfl)
    · exact of_decide_eq_true (c.fact 92 (f := .exm "BadRecord" "BadYear" false) rfl)
    · exact of_decide_eq_true (c.fact 93 (f := .exm "BadRow" "OutOfRange" false) rfl)
    · exact of_decide_eq_true (c.fact 94 (f := .exm "BadRow" "TooMany" false) rfl)
    · exact of_decide_eq_true (c.fact 95 (f := .exm "BadRow" "TooLarge" false) rfl)
    · exact of_decide_eq_true (c.fact 96 (f := .exm "BadRow" "WrongSize" false) rfl)
    · exact of_decide_eq_true (c.fact 97 (f := .exm "BadRow" "BadRecord" false) rfl)
    · exact of_decide_eq_true (c.fact 98 (f := .exm "BadRow" "BadRow" true) rfl)
    · exact of_decide_eq_true (c.fact 99 (f := .exm "BadRow" "BadWidth" false) rfl)
    · exact of_decide_eq_true (c.fact 100 (f := .exm "BadRow" "BadPrice" false) rfl)
    · exact of_decide_eq_true (c.fact 101 (f := .exm "BadRow" "BadYear" false) rfl)
    · exact of_decide_eq_true (c.fact 102 (f := .exm "BadWidth" "OutOfRange" false) rfl)
    · exact of_decide_eq_true (c.fact 103 (f := .exm "BadWidth" "TooMany" false) rfl)
    · exact of_decide_eq_true (c.fact 104 (f := .exm "BadWidth" "TooLarge" false) rfl)
    · exact of_decide_eq_true (c.fact 105 (f := .exm "BadWidth" "WrongSize" false) rfl)
    · exact of_decide_eq_true (c.fact 106 (f := .exm "BadWidth" "BadRecord" false) rfl)
    · exact of_decide_eq_true (c.fact 107 (f := .exm "BadWidth" "BadRow" false) rfl)
    · exact of_decide_eq_true (c.fact 108 (f := .exm "BadWidth" "BadWidth" true) rfl)
    · exact of_decide_eq_true (c.fact 109 (f := .exm "BadWidth" "BadPrice" false) rfl)
    · exact of_decide_eq_true (c.fact 110 (f := .exm "BadWidth" "BadYear" false) rfl)
    · exact of_decide_eq_true (c.fact 111 (f := .exm "BadPrice" "OutOfRange" false) rfl)
    · exact of_decide_eq_true (c.fact 112 (f := .exm "BadPrice" "TooMany" false) rfl)
    · exact of_decide_eq_true (c.fact 113 (f := .exm "BadPrice" "TooLarge" false) rfl)
    · exact of_decide_eq_true (c.fact 114 (f := .exm "BadPrice" "WrongSize" false) rfl)
    · exact of_decide_eq_true (c.fact 115 (f := .exm "BadPrice" "BadRecord" false) rfl)
    · exact of_decide_eq_true (c.fact 116 (f := .exm "BadPrice" "BadRow" false) rfl)
    · exact of_decide_eq_true (c.fact 117 (f := .exm "BadPrice" "BadWidth" false) rfl)
    · exact of_decide_eq_true (c.fact 118 (f := .exm "BadPrice" "BadPrice" true) rfl)
    · exact of_decide_eq_true (c.fact 119 (f := .exm "BadPrice" "BadYear" false) rfl)
    · exact of_decide_eq_true (c.fact 120 (f := .exm "BadYear" "OutOfRange" false) rfl)
    · exact of_decide_eq_true (c.fact 121 (f := .exm "BadYear" "TooMany" false) rfl)
    · exact of_decide_eq_true (c.fact 122 (f := .exm "BadYear" "TooLarge" false) rfl)
    · exact of_decide_eq_true (c.fact 123 (f := .exm "BadYear" "WrongSize" false) rfl)
    · exact of_decide_eq_true (c.fact 124 (f := .exm "BadYear" "BadRecord" false) rfl)
    · exact of_decide_eq_true (c.fact 125 (f := .exm "BadYear" "BadRow" false) rfl)
    · exact of_decide_eq_true (c.fact 126 (f := .exm "BadYear" "BadWidth" false) rfl)
    · exact of_decide_eq_true (c.fact 127 (f := .exm "BadYear" "BadPrice" false) rfl)
    · exact of_decide_eq_true (c.fact 128 (f := .exm "BadYear" "BadYear" true) rfl)
  have exd : ∀ c ∈ kn, PySem.W.exmOne K (cv K c) (cv K "DigError") = some true := by
    intro a ha
    simp only [kn, List.mem_cons, List.not_mem_nil, or_false] at ha
    rcases ha with rfl | rfl | rfl | rfl | rfl | rfl | rfl | rfl | rfl
    · exact of_decide_eq_true (c.fact 129 (f := .exm "OutOfRange" "DigError" true) rfl)
    · exact of_decide_eq_true (c.fact 130 (f := .exm "TooMany" "DigError" true) rfl)
    · exact of_decide_eq_true (c.fact 131 (f := .exm "TooLarge" "DigError" true) rfl)
    · exact of_decide_eq_true (c.fact 132 (f := .exm "WrongSize" "DigError" true) rfl)
    · exact of_decide_eq_true (c.fact 133 (f := .exm "BadRecord" "DigError" true) rfl)
    · exact of_decide_eq_true (c.fact 134 (f := .exm "BadRow" "DigError" true) rfl)
    · exact of_decide_eq_true (c.fact 135 (f := .exm "BadWidth" "DigError" true) rfl)
    · exact of_decide_eq_true (c.fact 136 (f := .exm "BadPrice" "DigError" true) rfl)
    · exact of_decide_eq_true (c.fact 137 (f := .exm "BadYear" "DigError" true) rfl)
  have dig : ∀ c ∈ kn, DigT P K mg c := fun x hx => digB_ok X G (D := "DigError") (by rw [hP]; exact List.all_eq_true.mp (He.ba cx.more).1 x hx) hT
  have bi : Bi P K mg := ⟨He.free_ok X G (c.fact 36 (f := .free "abs") rfl), He.free_ok X G (c.fact 37 (f := .free "all") rfl), He.free_ok X G (c.fact 38 (f := .free "enumerate") rfl), He.free_ok X G (c.fact 39 (f := .free "int") rfl), He.free_ok X G (c.fact 40 (f := .free "len") rfl), He.free_ok X G (c.fact 41 (f := .free "list") rfl), He.free_ok X G (c.fact 42 (f := .free "max") rfl), He.free_ok X G (c.fact 43 (f := .free "min") rfl), He.free_ok X G (c.fact 44 (f := .free "range") rfl), He.free_ok X G (c.fact 45 (f := .free "reversed") rfl), He.free_ok X G (c.fact 46 (f := .free "sum") rfl), He.free_ok X G (c.fact 47 (f := .free "zip") rfl), PySem.W.mg_of X G (He.eqO_ok (He.ba cx.more).2), He.int_ok X G (c.fact 28 (f := .int "LEAST_RINGS" 2) rfl), He.int_ok X G (c.fact 29 (f := .int "MOST_RINGS" 40) rfl), He.int_ok X G (c.fact 30 (f := .int "MOST_WIDTH" 1000) rfl), He.int_ok X G (c.fact 31 (f := .int "MOST_WOODS" 10) rfl), He.int_ok X G (c.fact 32 (f := .int "MOST_RECORDS" 30) rfl), He.int_ok X G (c.fact 33 (f := .int "MOST_SHIFT" 1000) rfl), He.int_ok X G (c.fact 34 (f := .int "MOST_ROWS" 10) rfl), He.int_ok X G (c.fact 35 (f := .int "MOST_PRICE" 1000000) rfl), exm, dig, He.glo_ok X G (c.fact 27 (f := .glo "DigError") rfl), exd⟩
  obtain ⟨fd_fraction, F_fraction⟩ := c.def_ 0 (d := d_fraction) rfl
  obtain ⟨fd_check_row, F_check_row⟩ := c.def_ 1 (d := d_check_row) rfl
  obtain ⟨fd_check_rows, F_check_rows⟩ := c.def_ 2 (d := d_check_rows) rfl
  obtain ⟨fd_rises_of, F_rises_of⟩ := c.def_ 3 (d := d_rises_of) rfl
  obtain ⟨fd_agreement_of, F_agreement_of⟩ := c.def_ 4 (d := d_agreement_of) rfl
  obtain ⟨fd_agreement, F_agreement⟩ := c.def_ 5 (d := d_agreement) rfl
  obtain ⟨fd_is_better, F_is_better⟩ := c.def_ 6 (d := d_is_better) rfl
  obtain ⟨fd_best_shift, F_best_shift⟩ := c.def_ 7 (d := d_best_shift) rfl
  obtain ⟨fd_check_records, F_check_records⟩ := c.def_ 8 (d := d_check_records) rfl
  obtain ⟨fd_steps_of, F_steps_of⟩ := c.def_ 9 (d := d_steps_of) rfl
  obtain ⟨fd_told_years, F_told_years⟩ := c.def_ 10 (d := d_told_years) rfl
  obtain ⟨fd_unlike_record, F_unlike_record⟩ := c.def_ 11 (d := d_unlike_record) rfl
  obtain ⟨fd_years, F_years⟩ := c.def_ 12 (d := d_years) rfl
  obtain ⟨fd_do_fit, F_do_fit⟩ := c.def_ 13 (d := d_do_fit) rfl
  obtain ⟨fd_ring, F_ring⟩ := c.def_ 14 (d := d_ring) rfl
  obtain ⟨fd_is_row, F_is_row⟩ := c.def_ 15 (d := d_is_row) rfl
  obtain ⟨fd_mean_row, F_mean_row⟩ := c.def_ 16 (d := d_mean_row) rfl
  obtain ⟨fd_check_laid, F_check_laid⟩ := c.def_ 17 (d := d_check_laid) rfl
  obtain ⟨fd_cost, F_cost⟩ := c.def_ 18 (d := d_cost) rfl
  obtain ⟨fd_tables_of, F_tables_of⟩ := c.def_ 19 (d := d_tables_of) rfl
  obtain ⟨fd_best_behind, F_best_behind⟩ := c.def_ 20 (d := d_best_behind) rfl
  obtain ⟨fd_least_laying, F_least_laying⟩ := c.def_ 21 (d := d_least_laying) rfl
  obtain ⟨fd_count_least, F_count_least⟩ := c.def_ 22 (d := d_count_least) rfl
  obtain ⟨fd__law_draws, F__law_draws⟩ := c.def_ 23 (d := d__law_draws) rfl
  obtain ⟨fd__law_mix, F__law_mix⟩ := c.def_ 24 (d := d__law_mix) rfl
  obtain ⟨fd__law_row, F__law_row⟩ := c.def_ 25 (d := d__law_row) rfl
  obtain ⟨fd_law, F_law⟩ := c.def_ 26 (d := d_law) rfl
  have e := hfa.symm.trans (He.glo_ok X G (c.fact 26 (f := .glo "law") rfl))
  cases e
  have b := FunD.bindsA (ps := ["script"]) F_law fun _ _ _ _ _ _ us hl => match us, hl with | [_], _ => rfl
  refine ⟨fd_law, fun s v => b s [v] rfl, fun base _ _ => ?_⟩
  have G_fraction := ok_fraction (P := P) (w := w) (base := base) bi F_fraction  
  have C_fraction : FnC K mg "fraction" _ fd_fraction ["number", "by"] := ⟨He.glo_ok X G (c.fact 0 (f := .glo "fraction") rfl), F_fraction.kp, F_fraction.bindsN fun _ _ _ _ _ _ us hl => match us, hl with | [_, _], _ => rfl⟩
  have G_check_row := ok_check_row (P := P) (w := w) (base := base) bi F_check_row  
  have C_check_row : FnC K mg "check_row" _ fd_check_row ["row"] := ⟨He.glo_ok X G (c.fact 1 (f := .glo "check_row") rfl), F_check_row.kp, F_check_row.bindsN fun _ _ _ _ _ _ us hl => match us, hl with | [_], _ => rfl⟩
  have G_check_rows := ok_check_rows (P := P) (w := w) (base := base) bi F_check_rows C_check_row G_check_row
  have C_check_rows : FnC K mg "check_rows" _ fd_check_rows ["first", "second"] := ⟨He.glo_ok X G (c.fact 2 (f := .glo "check_rows") rfl), F_check_rows.kp, F_check_rows.bindsN fun _ _ _ _ _ _ us hl => match us, hl with | [_, _], _ => rfl⟩
  have G_rises_of := ok_rises_of (P := P) (w := w) (base := base) bi F_rises_of  
  have C_rises_of : FnC K mg "rises_of" _ fd_rises_of ["row"] := ⟨He.glo_ok X G (c.fact 3 (f := .glo "rises_of") rfl), F_rises_of.kp, F_rises_of.bindsN fun _ _ _ _ _ _ us hl => match us, hl with | [_], _ => rfl⟩
  have G_agreement_of := ok_agreement_of (P := P) (w := w) (base := base) bi F_agreement_of  
  have C_agreement_of : FnC K mg "agreement_of" _ fd_agreement_of ["first", "second", "shift"] := ⟨He.glo_ok X G (c.fact 4 (f := .glo "agreement_of") rfl), F_agreement_of.kp, F_agreement_of.bindsN fun _ _ _ _ _ _ us hl => match us, hl with | [_, _, _], _ => rfl⟩
  have G_agreement := ok_agreement (P := P) (w := w) (base := base) bi F_agreement C_check_rows C_rises_of C_agreement_of G_check_rows G_rises_of G_agreement_of
  have C_agreement : FnC K mg "agreement" _ fd_agreement ["first", "second", "shift"] := ⟨He.glo_ok X G (c.fact 5 (f := .glo "agreement") rfl), F_agreement.kp, F_agreement.bindsN fun _ _ _ _ _ _ us hl => match us, hl with | [_, _, _], _ => rfl⟩
  have G_is_better := ok_is_better (P := P) (w := w) (base := base) bi F_is_better  
  have C_is_better : FnC K mg "is_better" _ fd_is_better ["one", "two"] := ⟨He.glo_ok X G (c.fact 6 (f := .glo "is_better") rfl), F_is_better.kp, F_is_better.bindsN fun _ _ _ _ _ _ us hl => match us, hl with | [_, _], _ => rfl⟩
  have G_best_shift := ok_best_shift (P := P) (w := w) (base := base) bi F_best_shift C_check_rows C_rises_of C_agreement_of C_is_better G_check_rows G_rises_of G_agreement_of G_is_better
  have C_best_shift : FnC K mg "best_shift" _ fd_best_shift ["first", "second", "least"] := ⟨He.glo_ok X G (c.fact 7 (f := .glo "best_shift") rfl), F_best_shift.kp, F_best_shift.bindsN fun _ _ _ _ _ _ us hl => match us, hl with | [_, _, _], _ => rfl⟩
  have G_check_records := ok_check_records (P := P) (w := w) (base := base) bi F_check_records  
  have C_check_records : FnC K mg "check_records" _ fd_check_records ["woods", "records"] := ⟨He.glo_ok X G (c.fact 8 (f := .glo "check_records") rfl), F_check_records.kp, F_check_records.bindsN fun _ _ _ _ _ _ us hl => match us, hl with | [_, _], _ => rfl⟩
  have G_steps_of := ok_steps_of (P := P) (w := w) (base := base) bi F_steps_of  
  have C_steps_of : FnC K mg "steps_of" _ fd_steps_of ["records", "wood"] := ⟨He.glo_ok X G (c.fact 9 (f := .glo "steps_of") rfl), F_steps_of.kp, F_steps_of.bindsN fun _ _ _ _ _ _ us hl => match us, hl with | [_, _], _ => rfl⟩
  have G_told_years := ok_told_years (P := P) (w := w) (base := base) bi F_told_years C_steps_of G_steps_of
  have C_told_years : FnC K mg "told_years" _ fd_told_years ["woods", "records"] := ⟨He.glo_ok X G (c.fact 10 (f := .glo "told_years") rfl), F_told_years.kp, F_told_years.bindsN fun _ _ _ _ _ _ us hl => match us, hl with | [_, _], _ => rfl⟩
  have G_unlike_record := ok_unlike_record (P := P) (w := w) (base := base) bi F_unlike_record  
  have C_unlike_record : FnC K mg "unlike_record" _ fd_unlike_record ["records", "told"] := ⟨He.glo_ok X G (c.fact 11 (f := .glo "unlike_record") rfl), F_unlike_record.kp, F_unlike_record.bindsN fun _ _ _ _ _ _ us hl => match us, hl with | [_, _], _ => rfl⟩
  have G_years := ok_years (P := P) (w := w) (base := base) bi F_years C_check_records C_told_years C_unlike_record G_check_records G_told_years G_unlike_record
  have C_years : FnC K mg "years" _ fd_years ["woods", "records"] := ⟨He.glo_ok X G (c.fact 12 (f := .glo "years") rfl), F_years.kp, F_years.bindsN fun _ _ _ _ _ _ us hl => match us, hl with | [_, _], _ => rfl⟩
  have G_do_fit := ok_do_fit (P := P) (w := w) (base := base) bi F_do_fit C_check_records C_unlike_record G_check_records G_unlike_record
  have C_do_fit : FnC K mg "do_fit" _ fd_do_fit ["woods", "records", "told"] := ⟨He.glo_ok X G (c.fact 13 (f := .glo "do_fit") rfl), F_do_fit.kp, F_do_fit.bindsN fun _ _ _ _ _ _ us hl => match us, hl with | [_, _, _], _ => rfl⟩
  have G_ring := ok_ring (P := P) (w := w) (base := base) bi F_ring C_check_records C_told_years C_unlike_record G_check_records G_told_years G_unlike_record
  have C_ring : FnC K mg "ring" _ fd_ring ["woods", "records"] := ⟨He.glo_ok X G (c.fact 14 (f := .glo "ring") rfl), F_ring.kp, F_ring.bindsN fun _ _ _ _ _ _ us hl => match us, hl with | [_, _], _ => rfl⟩
  have G_is_row := ok_is_row (P := P) (w := w) (base := base) bi F_is_row C_check_row G_check_row
  have C_is_row : FnC K mg "is_row" _ fd_is_row ["row"] := ⟨He.glo_ok X G (c.fact 15 (f := .glo "is_row") rfl), F_is_row.kp, F_is_row.bindsN fun _ _ _ _ _ _ us hl => match us, hl with | [_], _ => rfl⟩
  have G_mean_row := ok_mean_row (P := P) (w := w) (base := base) bi F_mean_row C_fraction C_is_row G_fraction G_is_row
  have C_mean_row : FnC K mg "mean_row" _ fd_mean_row ["rows", "told"] := ⟨He.glo_ok X G (c.fact 16 (f := .glo "mean_row") rfl), F_mean_row.kp, F_mean_row.bindsN fun _ _ _ _ _ _ us hl => match us, hl with | [_, _], _ => rfl⟩
  have G_check_laid := ok_check_laid (P := P) (w := w) (base := base) bi F_check_laid C_check_rows G_check_rows
  have C_check_laid : FnC K mg "check_laid" _ fd_check_laid ["master", "row", "price"] := ⟨He.glo_ok X G (c.fact 17 (f := .glo "check_laid") rfl), F_check_laid.kp, F_check_laid.bindsN fun _ _ _ _ _ _ us hl => match us, hl with | [_, _, _], _ => rfl⟩
  have G_cost := ok_cost (P := P) (w := w) (base := base) bi F_cost C_check_laid G_check_laid
  have C_cost : FnC K mg "cost" _ fd_cost ["master", "row", "price", "told"] := ⟨He.glo_ok X G (c.fact 18 (f := .glo "cost") rfl), F_cost.kp, F_cost.bindsN fun _ _ _ _ _ _ us hl => match us, hl with | [_, _, _, _], _ => rfl⟩
  have G_best_behind := ok_best_behind (P := P) (w := w) (base := base) bi F_best_behind  
  have C_best_behind : FnC K mg "best_behind" _ fd_best_behind ["later", "there", "own", "price"] := ⟨He.glo_ok X G (c.fact 20 (f := .glo "best_behind") rfl), F_best_behind.kp, F_best_behind.bindsN fun _ _ _ _ _ _ us hl => match us, hl with | [_, _, _, _], _ => rfl⟩
  have G_tables_of := ok_tables_of (P := P) (w := w) (base := base) bi F_tables_of C_best_behind G_best_behind
  have C_tables_of : FnC K mg "tables_of" _ fd_tables_of ["master", "row", "price"] := ⟨He.glo_ok X G (c.fact 19 (f := .glo "tables_of") rfl), F_tables_of.kp, F_tables_of.bindsN fun _ _ _ _ _ _ us hl => match us, hl with | [_, _, _], _ => rfl⟩
  have G_least_laying := ok_least_laying (P := P) (w := w) (base := base) bi F_least_laying C_check_laid C_tables_of G_check_laid G_tables_of
  have C_least_laying : FnC K mg "least_laying" _ fd_least_laying ["master", "row", "price"] := ⟨He.glo_ok X G (c.fact 21 (f := .glo "least_laying") rfl), F_least_laying.kp, F_least_laying.bindsN fun _ _ _ _ _ _ us hl => match us, hl with | [_, _, _], _ => rfl⟩
  have G_count_least := ok_count_least (P := P) (w := w) (base := base) bi F_count_least C_check_laid C_tables_of G_check_laid G_tables_of
  have C_count_least : FnC K mg "count_least" _ fd_count_least ["master", "row", "price"] := ⟨He.glo_ok X G (c.fact 22 (f := .glo "count_least") rfl), F_count_least.kp, F_count_least.bindsN fun _ _ _ _ _ _ us hl => match us, hl with | [_, _, _], _ => rfl⟩
  have G__law_draws := ok__law_draws (P := P) (w := w) (base := base) bi F__law_draws  
  have C__law_draws : FnC K mg "_law_draws" _ fd__law_draws ["script"] := ⟨He.glo_ok X G (c.fact 23 (f := .glo "_law_draws") rfl), F__law_draws.kp, F__law_draws.bindsN fun _ _ _ _ _ _ us hl => match us, hl with | [_], _ => rfl⟩
  have G__law_mix := ok__law_mix (P := P) (w := w) (base := base) bi F__law_mix  
  have C__law_mix : FnC K mg "_law_mix" _ fd__law_mix ["draws", "k", "many"] := ⟨He.glo_ok X G (c.fact 24 (f := .glo "_law_mix") rfl), F__law_mix.kp, F__law_mix.bindsN fun _ _ _ _ _ _ us hl => match us, hl with | [_, _, _], _ => rfl⟩
  have G__law_row := ok__law_row (P := P) (w := w) (base := base) bi F__law_row C__law_mix G__law_mix
  have C__law_row : FnC K mg "_law_row" _ fd__law_row ["draws", "k", "least", "most", "wide"] := ⟨He.glo_ok X G (c.fact 25 (f := .glo "_law_row") rfl), F__law_row.kp, F__law_row.bindsN fun _ _ _ _ _ _ us hl => match us, hl with | [_, _, _, _, _], _ => rfl⟩
  have G_law := ok_law (P := P) (w := w) (base := base) bi F_law C_agreement C_best_shift C_years C_do_fit C_ring C_mean_row C_cost C_least_laying C_count_least C__law_draws C__law_mix C__law_row G_agreement G_best_shift G_years G_do_fit G_ring G_mean_row G_cost G_least_laying G_count_least G__law_draws G__law_mix G__law_row
  exact G_law
end head
/-- the end: the law's walk, by the plain law -/
theorem law_end (hL : ∀ ns : List Int, ns.length ≤ 63 → N.law ⟨ns⟩ = .ok true) : PySem.Challenge.rw_dugtold_k94_whole_woods_of_one_master.Holds := by
  open PySem PySem.W PySem.Calls PyProof.Rows in
  w_on; o_law
  refine HandSHeadRun.head_imp (r := PySem.W.OpenLaw.row PySem.Challenge.rw_dugtold_k94_whole_woods_of_one_master) (q := PySem.W.view (PySem.W.OpenLaw.row PySem.Challenge.rw_dugtold_k94_whole_woods_of_one_master).prog [0, 51]) (H := hk) (ob := ob) (M := 4000) (loose := ("DigError" :: "OutOfRange" :: "TooMany" :: "TooLarge" :: "WrongSize" :: "BadRecord" :: "BadRow" :: "BadWidth" :: "BadPrice" :: "BadYear" :: "fraction" :: "LEAST_RINGS" :: "MOST_RINGS" :: "MOST_WIDTH" :: "check_row" :: "check_rows" :: "rises_of" :: "agreement_of" :: "agreement" :: "is_better" :: "best_shift" :: "MOST_WOODS" :: "MOST_RECORDS" :: "MOST_SHIFT" :: "MOST_ROWS" :: "check_records" :: "steps_of" :: "told_years" :: "unlike_record" :: "years" :: "do_fit" :: "ring" :: "is_row" :: "mean_row" :: "MOST_PRICE" :: "check_laid" :: "cost" :: "tables_of" :: "best_behind" :: "least_laying" :: "count_least" :: "_law_draws" :: "_law_mix" :: "_law_row" :: [])) (d := HandSHeadRun.topDef (PySem.W.OpenLaw.row PySem.Challenge.rw_dugtold_k94_whole_woods_of_one_master).prog 51) (kwd := []) ob_eq
    run (by kernel_rfl) (by kernel_rfl) (by kernel_rfl) (by rfl) (by first | assumption | decide +kernel) (by decide +kernel) ⟨rfl, rfl, rfl, rfl, rfl, by decide +kernel⟩ ?hw ?hc
  case hw => w_witness2
  case hc =>
    refine Vs.walk_ofGw (l := PySem.Challenge.rw_dugtold_k94_whole_woods_of_one_master) (n := 63) (k := 8) (x := "script") (CX := L2.CX PySem.Challenge.rw_dugtold_k94_whole_woods_of_one_master.prog) rfl (by decide) (by kernel_rfl) ⟨⟨rfl, by decide, by decide⟩, rfl⟩ ?F ?hCX
    case hCX =>
      intro w H s e s' z
      obtain ⟨_, _, _, _, _, _, _, _, _, _, _, _, z⟩ := z
      exact z
    intro w mg fa h Y G hmg0
    obtain ⟨K, KX, c⟩ := Y
    have hmg : mg ("law" : PySem.Str) = some (.ref fa) := by
      have e : (HandSHeadRun.topDef (PySem.W.OpenLaw.row PySem.Challenge.rw_dugtold_k94_whole_woods_of_one_master).prog 51).name = ("law" : PySem.Str) := by kernel_rfl
      rw [← e]
      exact hmg0
    obtain ⟨fd, hb, hF⟩ := facts (P := (PySem.Challenge.rw_dugtold_k94_whole_woods_of_one_master).prog) (w := w) (by rfl) (by kernel_rfl) KX G hmg c
    refine ⟨K, fd, Vs.spR K (Vs.Rn1 N.law), KX, hb, fun H a ns hl hO hS => ?_, hF⟩
    exact Vs.law_sp hO hS (hL ns hl)

end Law
end
section
set_option Elab.async false
set_option linter.all false
set_option maxRecDepth 100000
set_option maxHeartbeats 1000000
noncomputable section
namespace Law
open Vs.Enc (toD)
open PySem PySem.Spec PyProof.Rows Vs
theorem draws_is : @N._law_draws = @Dr._law_draws := rfl
theorem mix_is : @N._law_mix = @Dr._law_mix := rfl
theorem lim_big : (4096 : Nat) ≤ lim := by unfold lim; decide
/-- rings as they have to be -/
structure GR (r : List Int) : Prop where
  n2 : 2 ≤ r.length
  n40 : r.length ≤ 40
  w : ∀ x ∈ r, 1 ≤ x ∧ x ≤ 1000
/-- r is cut from m at s -/
structure Sl (m : List Int) (s : Nat) (r : List Int) : Prop where
  n2 : 2 ≤ r.length
  fit : s + r.length ≤ m.length
  at_ : ∀ i, i < r.length → r[i]? = m[s + i]?
theorem Sl.gr {m r : List Int} {s : Nat} (g : GR m) (h : Sl m s r) : GR r := ⟨h.n2, by have := h.fit; have := g.n40; omega, fun x hx => by
  obtain ⟨i, e⟩ := List.mem_iff_getElem?.mp hx
  have hi := (List.getElem?_eq_some_iff.mp e).1
  rw [h.at_ i hi] at e
  exact g.w x (List.mem_of_getElem? e)⟩
theorem check_row_ok {r : List Int} (g : GR r) : N.check_row r = .ok () := by
  unfold N.check_row
  have a1 : (2 : Int) ≤ lenL r := by unfold lenL; have := g.n2; omega
  have a2 : lenL r ≤ 40 := by unfold lenL; have := g.n40; omega
  simp only [decide_eq_true a1, decide_eq_true a2, if_true, Res.ok_bind, Bool.not_true, Bool.false_eq_true, if_false]
  rw [foldR_pass]
  · rfl
  · intro p hp
    obtain ⟨k, _, h2⟩ := mem_enumL hp
    obtain ⟨h3, h4⟩ := g.w p.2 (List.mem_of_getElem? h2)
    unfold N.check_row_l1
    simp only [decide_eq_true h3, decide_eq_true h4, if_true, Res.ok_bind, Bool.not_true, Bool.false_eq_true, if_false]
theorem check_rows_ok {a b : List Int} (g : GR a) (h : GR b) : N.check_rows a b = .ok () := by
  unfold N.check_rows
  rw [check_row_ok g, Res.ok_bind, check_row_ok h]; rfl
theorem is_row_ok {r : List Int} (g : GR r) : N.is_row r = .ok true := by
  unfold N.is_row
  rw [check_row_ok g]; rfl
/-! ### rises -/
def up1 (p : Int × Int) : Int := boolI (decide (p.1 < p.2)) - boolI (decide (p.2 < p.1))
def ris (r : List Int) : List Int := (r.zip (r.drop 1)).map up1
theorem rises_is {r : List Int} (h : 1 ≤ r.length) : N.rises_of r = .ok (ris r) := by
  unfold N.rises_of
  rw [show (some (1 : Int)) = some ((1 : Nat) : Int) from rfl, cutL_from h, lcR_map (f := fun p : Int × Int => Res.ok (boolI (decide (p.1 < p.2)) - boolI (decide (p.2 < p.1)))) (g := up1) fun _ _ => rfl]; rfl
theorem ris_len (r : List Int) : (ris r).length = r.length - 1 := by
  unfold ris
  rw [List.length_map, List.length_zip, List.length_drop]; omega
theorem ris_at {r : List Int} {i : Nat} {a b : Int} (h1 : r[i]? = some a) (h2 : r[i + 1]? = some b) : (ris r)[i]? = some (up1 (a, b)) := by
  unfold ris
  have e : (r.drop 1)[i]? = some b := by rw [List.getElem?_drop, Nat.add_comm]; exact h2
  rw [List.getElem?_map, List.getElem?_zip_eq_some (z := (a, b)) |>.mpr ⟨h1, e⟩]; rfl
theorem ris_sl {m r : List Int} {s : Nat} (h : Sl m s r) {i : Nat} (hi : i < r.length - 1) : (ris r)[i]? = (ris m)[s + i]? := by
  have e1 := List.getElem?_eq_getElem (l := r) (i := i) (by omega)
  have e2 := List.getElem?_eq_getElem (l := r) (i := i + 1) (by omega)
  have f1 := h.at_ i (by omega)
  have f2 := h.at_ (i + 1) (by omega)
  rw [ris_at e1 e2, ris_at (by rw [← f1]; exact e1) (by rw [Nat.add_assoc, ← f2]; exact e2)]
/-! ### agreements -/
def inA (first : List Int) (shift : Int) (p : Int × Int) : Bool := decide (0 ≤ p.1 + shift) && decide (p.1 + shift < lenL first)
def eqA (first : List Int) (shift : Int) (p : Int × Int) : Bool := inA first shift p && decide (first[(p.1 + shift).toNat]? = some p.2)
def agr (first second : List Int) (shift : Int) : Int × Int := ((((enumL second).filter (eqA first shift)).length : Int), (((enumL second).filter (inA first shift)).length : Int))
theorem agr_walk {first : List Int} {shift : Int} : ∀ (xs : List (Int × Int)) (o a : Int), foldR (N.agreement_of_l1 first shift) xs (o, a) = .ok (o + ((xs.filter (inA first shift)).length : Int), a + ((xs.filter (eqA first shift)).length : Int))
  | [], o, a => by simp; rfl
  | p :: xs, o, a => by
    show (N.agreement_of_l1 first shift (o, a) p >>= fun s' => foldR _ xs s') = _
    have step : N.agreement_of_l1 first shift (o, a) p = .ok (o + (if inA first shift p = true then 1 else 0), a + (if eqA first shift p = true then 1 else 0)) := by
      unfold N.agreement_of_l1
      by_cases h1 : (0 : Int) ≤ p.1 + shift
      · by_cases h2 : p.1 + shift < lenL first
        · have hin : inA first shift p = true := by unfold inA; rw [decide_eq_true h1, decide_eq_true h2]; rfl
          have hl : (p.1 + shift).toNat < first.length := by unfold lenL at h2; omega
          simp only [decide_eq_true h1, decide_eq_true h2, if_true, Res.ok_bind]
          rw [getL_int h1 (List.getElem?_eq_getElem hl), Res.ok_bind]
          have he : eqA first shift p = decide (first[(p.1 + shift).toNat] = p.2) := by
            unfold eqA
            rw [hin, List.getElem?_eq_getElem hl, Bool.true_and]
            simp
          rw [hin, he]
          by_cases h3 : first[(p.1 + shift).toNat] = p.2
          · rw [decide_eq_true h3]; rfl
          · rw [decide_eq_false h3]; rfl
        · have hin : inA first shift p = false := by unfold inA; rw [decide_eq_false h2, Bool.and_false]
          have he : eqA first shift p = false := by unfold eqA; rw [hin]; rfl
          simp only [decide_eq_true h1, decide_eq_false h2, if_true, Res.ok_bind, hin, he, Bool.false_eq_true, if_false, Int.add_zero]
      · have hin : inA first shift p = false := by unfold inA; rw [decide_eq_false h1, Bool.false_and]
        have he : eqA first shift p = false := by unfold eqA; rw [hin]; rfl
        simp only [decide_eq_false h1, Res.ok_bind, hin, he, Bool.false_eq_true, if_false, Int.add_zero]
    rw [step, Res.ok_bind, agr_walk xs, List.filter_cons, List.filter_cons]
    cases inA first shift p <;> cases eqA first shift p <;> simp <;> omega
theorem agr_is (first second : List Int) (shift : Int) : N.agreement_of first second shift = .ok (agr first second shift) := by
  unfold N.agreement_of
  dsimp only
  rw [agr_walk, Res.ok_bind]
  unfold agr
  rw [Int.zero_add, Int.zero_add]
end Law
end
section
set_option Elab.async false
set_option linter.all false
set_option maxRecDepth 100000
set_option maxHeartbeats 1000000
noncomputable section
namespace Law
open Vs.Enc (toD)
open PySem PySem.Spec PyProof.Rows Vs
theorem eq_in {f : List Int} {sh : Int} {p : Int × Int} (h : eqA f sh p = true) : inA f sh p = true := by
  unfold eqA at h
  exact (Bool.and_eq_true_iff.mp h).1
theorem filter_le {α : Type} {p q : α → Bool} (h : ∀ x, p x = true → q x = true) : ∀ xs : List α, (xs.filter p).length ≤ (xs.filter q).length
  | [] => Nat.le_refl _
  | x :: xs => by
    have := filter_le h xs
    rw [List.filter_cons, List.filter_cons]
    cases hp : p x with
    | true => rw [h x hp]; simpa using this
    | false => cases q x <;> simp <;> omega
theorem agr_le (f s : List Int) (sh : Int) : 0 ≤ (agr f s sh).1 ∧ (agr f s sh).1 ≤ (agr f s sh).2 ∧ (agr f s sh).2 ≤ lenL s := by
  have h1 := filter_le (p := eqA f sh) (q := inA f sh) (fun x => eq_in) (enumL s)
  have h2 := List.length_filter_le (inA f sh) (enumL s)
  rw [enumL_len] at h2
  unfold agr lenL
  dsimp only
  omega
/-- all items of the second lie beside the same -/
theorem agr_full {f s : List Int} {k : Nat} (h : ∀ i x, s[i]? = some x → f[k + i]? = some x) : agr f s (k : Int) = (lenL s, lenL s) := by
  have he : ∀ p ∈ enumL s, eqA f k p = true := fun p hp => by
    obtain ⟨i, e1, e2⟩ := mem_enumL hp
    have e3 := h i p.2 e2
    have hl := (List.getElem?_eq_some_iff.mp e3).1
    unfold eqA inA
    rw [e1, decide_eq_true (by omega), decide_eq_true (by unfold lenL; omega), show ((i : Int) + (k : Int)).toNat = k + i by omega, e3, decide_eq_true rfl]; rfl
  unfold agr
  rw [List.filter_eq_self.mpr he, List.filter_eq_self.mpr fun p hp => eq_in (he p hp), enumL_len]; rfl
/-- where both lie beside one another they are the same -/
theorem agr_same {f s : List Int} {sh : Int} (h : ∀ p ∈ enumL s, inA f sh p = true → f[(p.1 + sh).toNat]? = some p.2) : (agr f s sh).1 = (agr f s sh).2 := by
  unfold agr
  dsimp only
  rw [List.filter_congr fun p hp => show eqA f sh p = inA f sh p from ?_]
  unfold eqA
  cases e : inA f sh p with
  | false => rfl
  | true => rw [h p hp e, decide_eq_true rfl]; rfl
section
variable {m r : List Int} {s : Nat}
theorem agree_is {a b : List Int} (g : GR a) (h : GR b) (sh : Int) : N.agreement a b sh = .ok (agr (ris a) (ris b) sh) := by
  have h1 := g.n2
  have h2 := h.n2
  unfold N.agreement
  rw [check_rows_ok g h, Res.ok_bind, rises_is (by omega), Res.ok_bind, rises_is (by omega), Res.ok_bind, agr_is]; rfl
theorem sl_full (h : Sl m s r) : agr (ris m) (ris r) (s : Int) = (lenL r - 1, lenL r - 1) := by
  have n2 := h.n2
  rw [agr_full fun i x e => ?_]
  · unfold lenL
    rw [ris_len]
    have : ((r.length - 1 : Nat) : Int) = (r.length : Int) - 1 := by omega
    rw [this]
  · have hi := (List.getElem?_eq_some_iff.mp e).1
    rw [ris_len] at hi
    rw [← ris_sl h hi]; exact e
/-! ### the best shift -/
def bt (one two : Int × Int) : Bool := if one.1 * two.2 = two.1 * one.2 then decide (two.2 < one.2) else decide (two.1 * one.2 < one.1 * two.2)
theorem better_is {one two : Int × Int} (h1 : 0 ≤ one.1 ∧ one.1 ≤ 1000) (h2 : 0 ≤ two.1 ∧ two.1 ≤ 1000) : N.is_better one two = .ok (bt one two) := by
  unfold N.is_better bt
  rw [mulI_l (by unfold big; omega) (by unfold big; omega), Res.ok_bind, mulI_l (by unfold big; omega) (by unfold big; omega), Res.ok_bind]
  by_cases h : one.1 * two.2 = two.1 * one.2
  · rw [if_pos h, decide_eq_true h]; rfl
  · rw [if_neg h, decide_eq_false h]
    simp only [Bool.not_false, if_true]
    rw [Res.ok_bind, Res.ok_bind]
theorem bt_same {a b D : Int} (hD : 0 < D) : bt (a, D) (b, D) = decide (b < a) := by
  unfold bt
  dsimp only
  by_cases h : a = b
  · subst h
    rw [if_pos rfl, decide_eq_false (by omega), decide_eq_false (by omega)]
  · rw [if_neg fun e => h (Int.eq_of_mul_eq_mul_right (by omega) e), decide_eq_decide]
    constructor
    · intro q; exact Int.lt_of_mul_lt_mul_right q (by omega)
    · intro q; exact Int.mul_lt_mul_of_pos_right q hD
structure Bst (ups downs : List Int) (D : Int) (s x : Int) (σ : Option ((Int × Int) × Int)) : Prop where
  a : ∀ t sh, σ = some (t, sh) → t = agr ups downs sh ∧ t.2 = D ∧ sh < x
  b : s < x → ∃ sh, σ = some ((D, D), sh) ∧ sh ≤ s
theorem best_step {ups downs : List Int} {D s x : Int} {σ : Option ((Int × Int) × Int)} (hD : D = lenL downs) (h0 : 0 < D) (h1 : D ≤ 1000) (hs : agr ups downs s = (D, D)) (B : Bst ups downs D s x σ) :
    ∃ σ', N.best_shift_l1 D ups downs σ x = .ok σ' ∧ Bst ups downs D s (x + 1) σ' := by
  obtain ⟨l1, l2, l3⟩ := agr_le ups downs x
  have put : ∀ (h2 : (agr ups downs x).2 = D) (hb : s < x → False) , Bst ups downs D s (x + 1) (some (agr ups downs x, x)) := fun h2 hb => ⟨fun t sh e => by cases e; exact ⟨rfl, h2, by omega⟩, fun q => by
    have : s = x := by
      rcases (show s < x ∨ s = x by omega) with q | q
      · exact (hb q).elim
      · exact q
    subst this
    exact ⟨s, by rw [hs], Int.le_refl _⟩⟩
  have stay : (s = x → ∃ sh, σ = some ((D, D), sh) ∧ sh ≤ s) → Bst ups downs D s (x + 1) σ := fun k => ⟨fun t sh e => by
    obtain ⟨q1, q2, q3⟩ := B.a t sh e
    exact ⟨q1, q2, by omega⟩, fun q => (show s < x ∨ s = x by omega).elim B.b k⟩
  unfold N.best_shift_l1
  rw [agr_is, Res.ok_bind]
  by_cases hl : D ≤ (agr ups downs x).2
  · have h2 : (agr ups downs x).2 = D := by omega
    rw [decide_eq_true hl, if_pos rfl]
    cases σ with
    | none =>
      refine ⟨_, rfl, put h2 fun q => ?_⟩
      obtain ⟨sh, e, _⟩ := B.b q
      cases e
    | some ts =>
      obtain ⟨t, sh⟩ := ts
      obtain ⟨q1, q2, q3⟩ := B.a t sh rfl
      obtain ⟨k1, k2, k3⟩ := agr_le ups downs sh
      rw [← q1] at k1 k2 k3
      have en : decide ((some (t, sh) : Option ((Int × Int) × Int)) = none) = false := decide_eq_false (by simp)
      have eu : unO (some (t, sh)) = Res.ok (t, sh) := rfl
      rw [en, if_neg (by decide), eu, Res.ok_bind]
      dsimp only
      rw [better_is ⟨l1, by omega⟩ ⟨k1, by omega⟩]
      have eb : bt (agr ups downs x) t = decide (t.1 < (agr ups downs x).1) := by
        have e1 : agr ups downs x = ((agr ups downs x).1, D) := Prod.ext rfl h2
        have e2 : t = (t.1, D) := Prod.ext rfl q2
        have := bt_same (a := (agr ups downs x).1) (b := t.1) h0
        rw [← e1, ← e2] at this
        exact this
      rw [eb]
      by_cases hb : t.1 < (agr ups downs x).1
      · rw [decide_eq_true hb]
        refine ⟨_, rfl, put h2 fun q => ?_⟩
        obtain ⟨sh', e, _⟩ := B.b q
        cases e
        dsimp only at hb
        omega
      · rw [decide_eq_false hb]
        refine ⟨_, rfl, stay fun q => ?_⟩
        subst q
        rw [hs] at hb
        dsimp only at hb
        have : t.1 = D := by omega
        have e2 : t = (D, D) := Prod.ext this q2
        exact ⟨sh, by rw [e2], by omega⟩
  · rw [decide_eq_false hl, if_neg (by decide)]
    refine ⟨_, rfl, stay fun q => ?_⟩
    subst q
    rw [hs] at hl
    exact (hl (Int.le_refl _)).elim
theorem best_is (g : GR m) (h : Sl m s r) : ∃ sh : Int, N.best_shift m r (lenL r - 1) = .ok (some sh) ∧ agr (ris m) (ris r) sh = (lenL r - 1, lenL r - 1) ∧ sh ≤ s := by
  have n2 := h.n2
  have fit := h.fit
  have m40 := g.n40
  have m2 := g.n2
  have hD : lenL r - 1 = lenL (ris r) := by unfold lenL; rw [ris_len]; omega
  have hU : lenL (ris m) = (m.length : Int) - 1 := by unfold lenL; rw [ris_len]; omega
  have hl : lenL r = (r.length : Int) := rfl
  obtain ⟨σ, e1, B⟩ := foldR_invN (f := N.best_shift_l1 (lenL r - 1) (ris m) (ris r)) (I := fun k σ => Bst (ris m) (ris r) (lenL r - 1) s (1 - lenL (ris r) + (k : Int)) σ) (xs := rangeL (1 - lenL (ris r)) (lenL (ris m))) (s := none) (n := 0) (fun k x hk σ B => by
    have hkl := (List.getElem?_eq_some_iff.mp hk).1
    rw [rangeL_length] at hkl
    rw [rangeL_get hkl] at hk
    cases hk
    rw [Nat.zero_add] at B ⊢
    obtain ⟨σ', q1, q2⟩ := best_step hD (by omega) (by omega) (sl_full h) B
    exact ⟨σ', q1, by rw [Int.natCast_add, ← Int.add_assoc]; exact q2⟩) ⟨fun t sh e => (by cases e), fun q => (by
      rw [← hD] at q
      omega)⟩
  rw [Nat.zero_add, rangeL_length] at B
  obtain ⟨sh, rfl, q2⟩ := B.b (by rw [hU, ← hD]; omega)
  obtain ⟨q3, _, _⟩ := B.a _ sh rfl
  refine ⟨sh, ?_, q3.symm, q2⟩
  unfold N.best_shift
  rw [check_rows_ok g (h.gr g), Res.ok_bind, decide_eq_false (by omega), if_neg (by decide), rises_is (by omega), Res.ok_bind, rises_is (by omega), Res.ok_bind]
  dsimp only
  rw [rangeR_is (by rw [← hD]; omega) (by rw [← hD]; omega) (by omega) (by omega), Res.ok_bind, e1]
  rfl
end
end Law
end
section
set_option Elab.async false
set_option linter.all false
set_option maxRecDepth 100000
set_option maxHeartbeats 1000000
noncomputable section
namespace Law
open Vs.Enc (toD)
open PySem PySem.Spec PyProof.Rows Vs
theorem laid_ok {m r : List Int} {s : Nat} (g : GR m) (h : Sl m s r) : N.check_laid m r 5 = .ok () := by
  have fit := h.fit
  unfold N.check_laid
  rw [check_rows_ok g (h.gr g), Res.ok_bind, decide_eq_false (by unfold lenL; omega), if_neg (by decide)]
  rfl
theorem rng_t (n x : Int) : ((if decide ((0 : Int) ≤ x) = true then (Res.ok (decide (x < n))) else .ok false) >>= fun t => Res.ok t) = Res.ok (decide (0 ≤ x) && decide (x < n)) := by
  by_cases h : (0 : Int) ≤ x
  · rw [decide_eq_true h]; rfl
  · rw [decide_eq_false h]; rfl
theorem range_zip (a : Int) : ∀ n : Nat, (((rangeL a (a + n)).zip ((rangeL a (a + n)).drop 1)).map fun p : Int × Int => decide (p.1 < p.2)).all id = true := fun n => by
  rw [List.all_map, List.all_eq_true]
  intro p hp
  obtain ⟨i, e⟩ := List.mem_iff_getElem?.mp hp
  obtain ⟨e1, e2⟩ := List.getElem?_zip_eq_some.mp e
  have l1 := (List.getElem?_eq_some_iff.mp e1).1
  rw [List.getElem?_drop] at e2
  have l2 := (List.getElem?_eq_some_iff.mp e2).1
  rw [rangeL_length] at l1 l2
  rw [rangeL_get l1] at e1
  rw [rangeL_get l2] at e2
  cases e1' : p.1 with
  | _ => 
    have e1 := Option.some.inj e1
    have e2 := Option.some.inj e2
    exact decide_eq_true (by omega)
section
variable {m r : List Int} {s : Nat}
theorem cost_is (g : GR m) (h : Sl m s r) : N.cost m r 5 (rangeL s (s + lenL r)) = .ok (some 0) := by
  have n2 := h.n2
  have fit := h.fit
  have hl : lenL r = (r.length : Int) := rfl
  have len : (rangeL (s : Int) (s + lenL r)).length = r.length := by rw [rangeL_length]; omega
  have at_ : ∀ i, i < r.length → (rangeL (s : Int) (s + lenL r))[i]? = some ((s : Int) + (i : Int)) := fun i hi => rangeL_get (by omega)
  unfold N.cost
  rw [laid_ok g h, Res.ok_bind, decide_eq_true (show lenL (rangeL (s : Int) (s + lenL r)) = lenL r by unfold lenL at *; rw [len])]
  simp only [Bool.not_true, Bool.false_eq_true, if_false]
  rw [lcR_map (g := fun x => decide (0 ≤ x) && decide (x < lenL m)) fun x _ => rng_t _ x, Res.ok_bind]
  have all1 : ((rangeL (s : Int) (s + lenL r)).map fun x => decide (0 ≤ x) && decide (x < lenL m)).all id = true := by
    rw [List.all_map, List.all_eq_true]
    intro x hx
    have := mem_rangeL.mp hx
    show (decide (0 ≤ x) && decide (x < lenL m)) = true
    rw [decide_eq_true (by omega), decide_eq_true (by unfold lenL at *; omega)]; rfl
  rw [all1, Res.ok_bind]
  simp only [Bool.not_true, Bool.false_eq_true, if_false]
  rw [show (some (1 : Int)) = some ((1 : Nat) : Int) from rfl, cutL_from (by omega), lcR_map (g := fun p : Int × Int => decide (p.1 < p.2)) fun _ _ => rfl, Res.ok_bind, show (((rangeL (s : Int) (s + lenL r)).zip ((rangeL (s : Int) (s + lenL r)).drop 1)).map fun p : Int × Int => decide (p.1 < p.2)).all id = true from range_zip s r.length]
  simp only [Bool.not_true, Bool.false_eq_true, if_false]
  have hne : rangeL (s : Int) (s + lenL r) ≠ [] := fun e => by rw [e] at len; simp at len; omega
  have gl : getL (rangeL (s : Int) (s + lenL r)) (-(1 : Int)) = .ok ((s : Int) + ((r.length - 1 : Nat) : Int)) := by
    rw [show (-(1 : Int)) = -1 from rfl, getL_neg1 hne, List.getLast_eq_getElem hne]
    have := at_ ((rangeL (s : Int) (s + lenL r)).length - 1) (by omega)
    rw [(List.getElem?_eq_some_iff.mp this).2, len]
  have g0 : getL (rangeL (s : Int) (s + lenL r)) 0 = .ok (s : Int) := by
    have := at_ 0 (by omega)
    exact getL_nat (k := 0) (by rw [this]; simp)
  rw [gl, Res.ok_bind, g0, Res.ok_bind]
  have z : (s : Int) + ((r.length - 1 : Nat) : Int) - s + 1 - lenL (rangeL (s : Int) (s + lenL r)) = 0 := by
    unfold lenL at *
    rw [len]
    omega
  rw [z, mulI_l (by decide) (by decide), Res.ok_bind, lcR_map (g := fun _ => (0 : Int)) fun p hp => ?_, Res.ok_bind]
  · have : ∀ xs : List (Int × Int), sumI (xs.map fun _ => (0 : Int)) = 0 := fun xs => by
      induction xs with
      | nil => rfl
      | cons x xs ih => unfold sumI at *; rw [List.map_cons, List.sum_cons, ih]; rfl
    rw [this]; rfl
  · obtain ⟨i, e⟩ := List.mem_iff_getElem?.mp hp
    obtain ⟨e1, e2⟩ := List.getElem?_zip_eq_some.mp e
    have l1 := (List.getElem?_eq_some_iff.mp e1).1
    rw [at_ i l1] at e2
    have e2 := Option.some.inj e2
    rw [h.at_ i l1] at e1
    rw [← e2, getL_int (by omega) (x := p.1) (by rw [show ((s : Int) + (i : Int)).toNat = s + i by omega]; exact e1), Res.ok_bind, Int.sub_self]; rfl
end
end Law
end
section
set_option Elab.async false
set_option linter.all false
set_option maxRecDepth 100000
set_option maxHeartbeats 1000000
noncomputable section
namespace Law
open Vs.Enc (toD)
open PySem PySem.Spec PyProof.Rows Vs
abbrev Ent := Option (Int × Int)
def OkE (e : Ent) : Prop := ∀ p, e = some p → 0 ≤ p.1 ∧ 1 ≤ p.2
def Zero (e : Ent) : Prop := ∃ w, e = some (0, w) ∧ 1 ≤ w
theorem sum_pos : ∀ {xs : List Int}, (∀ x ∈ xs, 1 ≤ x) → xs ≠ [] → 1 ≤ sumI xs
  | [], _, h => absurd rfl h
  | [x], h, _ => by
    have := h x (by simp)
    unfold sumI
    simp; exact this
  | x :: y :: xs, h, _ => by
    have h1 := h x (by simp)
    have h2 := sum_pos (xs := y :: xs) (fun z hz => h z (List.mem_cons_of_mem _ hz)) (by simp)
    unfold sumI at *
    rw [List.sum_cons]
    omega
/-- the least one of pairs, and how often -/
theorem least_of {l : List (Int × Int)} (hn : l ≠ []) (hl : ∀ p ∈ l, 0 ≤ p.1 ∧ 1 ≤ p.2) : ∃ m w, (lcR (fun _ => Res.ok true) (fun p : Int × Int => Res.ok p.1) l >>= fun xs => minL xs) = .ok m ∧ lcR (fun p : Int × Int => Res.ok (decide (p.1 = m))) (fun p => Res.ok p.2) l = .ok w ∧ 0 ≤ m ∧ 1 ≤ sumI w ∧ ((∃ p ∈ l, p.1 = 0) → m = 0) := by
  obtain ⟨x, xs, e⟩ : ∃ x xs, l.map (fun p => p.1) = x :: xs := by
    cases l with
    | nil => exact absurd rfl hn
    | cons a l => exact ⟨_, _, rfl⟩
  have hm : minL (l.map fun p => p.1) = .ok (xs.foldl min x) := by rw [e]; rfl
  obtain ⟨m1, m2⟩ := minL_spec hm
  obtain ⟨p, hp, ep⟩ := List.mem_map.mp m1
  refine ⟨xs.foldl min x, (l.filter fun p => decide (p.1 = xs.foldl min x)).map fun p => p.2, ?_, lcR_pure (fun _ _ => rfl) (fun _ _ _ => rfl), ?_, ?_, ?_⟩
  · rw [lcR_map (g := fun p : Int × Int => p.1) fun _ _ => rfl, Res.ok_bind, hm]
  · rw [← ep]; exact (hl p hp).1
  · refine sum_pos (fun y hy => ?_) fun z => ?_
    · obtain ⟨q, hq, rfl⟩ := List.mem_map.mp hy
      exact (hl q (List.mem_filter.mp hq).1).2
    · have : p.2 ∈ (l.filter fun p => decide (p.1 = xs.foldl min x)).map fun p => p.2 := List.mem_map.mpr ⟨p, List.mem_filter.mpr ⟨hp, decide_eq_true ep⟩, rfl⟩
      rw [z] at this
      simp at this
  · rintro ⟨q, hq, q0⟩
    have h1 := m2 q.1 (List.mem_map.mpr ⟨q, hq, rfl⟩)
    have h2 : 0 ≤ xs.foldl min x := by rw [← ep]; exact (hl p hp).1
    omega
def bbG (later : List Ent) (there own : Int) (nx : Int) : List (Int × Int) := match later[nx.toNat]? with
  | some (some p) => [(own + 5 * (nx - there - 1) + p.1, p.2)]
  | _ => []
theorem behind_is {later : List Ent} {there own : Int} (h0 : 0 ≤ there) (h1 : there < lenL later) (ho : 0 ≤ own) (hl : later.length ≤ 1000) (ok : ∀ e ∈ later, OkE e) :
    ∃ e, N.best_behind later there own 5 = .ok e ∧ OkE e ∧ (own = 0 → (∃ x, later[(there + 1).toNat]? = some x ∧ Zero x) → Zero e) := by
  have lb := lim_big
  have hL : lenL later = (later.length : Int) := rfl
  by_cases hlt : there + 1 ≤ lenL later
  · have step : ∀ x ∈ rangeL (there + 1) (lenL later), ∀ s : List (Int × Int), s.length + (bbG later there own x).length ≤ 4096 → N.best_behind_l1 later there own 5 s x = .ok (s ++ bbG later there own x) := fun x hx s hs => by
      have hx := mem_rangeL.mp hx
      obtain ⟨v, e1, e2, _⟩ := getL_is (xs := later) (i := x) (by omega) (by omega)
      unfold N.best_behind_l1
      unfold bbG at hs ⊢
      rw [e1] at hs ⊢
      rw [e2, Res.ok_bind]
      cases v with
      | none => rw [decide_eq_true rfl]; simp
      | some p =>
        have eu : unO (some p) = Res.ok p := rfl
        rw [decide_eq_false (by simp), Bool.not_false, if_pos rfl, mulI_l (by decide) (by decide), Res.ok_bind]
        simp only [e2, eu, Res.ok_bind]
        rw [pushL_is (by simp at hs; omega)]
        rfl
    have gl : ∀ x, (bbG later there own x).length ≤ 1 := fun x => by unfold bbG; split <;> simp
    have tot := flatMap_len (g := bbG later there own) (n := 1) (xs := rangeL (there + 1) (lenL later)) fun x _ => gl x
    rw [rangeL_length] at tot
    have fold := foldR_flat (B := 4096) (s := []) step (by rw [List.length_nil]; omega)
    rw [List.nil_append] at fold
    have mem : ∀ p ∈ (rangeL (there + 1) (lenL later)).flatMap (bbG later there own), 0 ≤ p.1 ∧ 1 ≤ p.2 := fun p hp => by
      obtain ⟨x, hx, hp⟩ := List.mem_flatMap.mp hp
      have hx := mem_rangeL.mp hx
      unfold bbG at hp
      split at hp
      · rename_i q eq
        have := ok _ (List.mem_of_getElem? eq) q rfl
        rw [List.mem_singleton.mp hp]
        dsimp only
        omega
      · simp at hp
    unfold N.best_behind
    dsimp only
    rw [rangeR_is (by omega) (by omega) (by omega) (by omega), Res.ok_bind, fold, Res.ok_bind]
    by_cases hn : (rangeL (there + 1) (lenL later)).flatMap (bbG later there own) = []
    · rw [hn]
      refine ⟨none, rfl, fun p e => (by cases e), fun _ ⟨x, hx, w, e, hw⟩ => ?_⟩
      have hlen := (List.getElem?_eq_some_iff.mp hx).1
      have : (own + 5 * (there + 1 - there - 1) + 0, w) ∈ (rangeL (there + 1) (lenL later)).flatMap (bbG later there own) := List.mem_flatMap.mpr ⟨there + 1, mem_rangeL.mpr ⟨Int.le_refl _, by omega⟩, by
        unfold bbG
        rw [hx, e]; simp⟩
      rw [hn] at this
      simp at this
    · obtain ⟨m, w, q1, q2, q3, q4, q5⟩ := least_of hn mem
      obtain ⟨xs, f1, f2⟩ := Res.eq_ok_of_bind q1
      have hz : lenL ((rangeL (there + 1) (lenL later)).flatMap (bbG later there own)) ≠ 0 := by
        have := List.length_pos_iff.mpr hn
        intro q
        have q : (((rangeL (there + 1) (lenL later)).flatMap (bbG later there own)).length : Int) = 0 := q
        omega
      rw [decide_eq_false hz, if_neg (by decide), f1, Res.ok_bind, f2, Res.ok_bind, q2, Res.ok_bind]
      refine ⟨_, rfl, fun p e => (by cases e; exact ⟨q3, q4⟩), fun h0' ⟨x, hx, v, e, hv⟩ => ?_⟩
      have hlen := (List.getElem?_eq_some_iff.mp hx).1
      have : m = 0 := q5 ⟨(own + 5 * (there + 1 - there - 1) + 0, v), List.mem_flatMap.mpr ⟨there + 1, mem_rangeL.mpr ⟨Int.le_refl _, by omega⟩, by
        unfold bbG
        rw [hx, e]; simp⟩, by dsimp only; omega⟩
      exact ⟨sumI w, by rw [this], q4⟩
  · omega
end Law
end
section
set_option Elab.async false
set_option linter.all false
set_option maxRecDepth 100000
set_option maxHeartbeats 1000000
noncomputable section
namespace Law
open Vs.Enc (toD)
open PySem PySem.Spec PyProof.Rows Vs
theorem abs_0 (x : Int) : 0 ≤ absI x := by unfold absI; split <;> omega
/-- a row of the table: for the ring i of r -/
structure Row (m : List Int) (s i : Nat) (T : List Ent) : Prop where
  len : T.length = m.length
  ok : ∀ e ∈ T, OkE e
  z : ∃ x, T[s + i]? = some x ∧ Zero x
structure Here (m : List Int) (s i k : Nat) (T : List Ent) : Prop where
  len : T.length = k
  ok : ∀ e ∈ T, OkE e
  z : s + i < k → ∃ x, T[s + i]? = some x ∧ Zero x
theorem Here.push {m : List Int} {s i k : Nat} {T : List Ent} {e : Ent} (H : Here m s i k T) (ok : OkE e) (z : k = s + i → Zero e) : Here m s i (k + 1) (T ++ [e]) := ⟨by rw [List.length_append, H.len]; rfl, fun x hx => by
  rcases List.mem_append.mp hx with q | q
  · exact H.ok x q
  · rw [List.mem_singleton.mp q]; exact ok, fun h => by
  by_cases q : s + i < k
  · obtain ⟨x, hx, hz⟩ := H.z q
    exact ⟨x, by rw [List.getElem?_append_left (by rw [H.len]; exact q)]; exact hx, hz⟩
  · have e1 : k = s + i := by omega
    exact ⟨e, by rw [List.getElem?_append_right (by rw [H.len]; omega), H.len, e1, Nat.sub_self]; rfl, z e1⟩⟩
section
variable {m r : List Int} {s : Nat}
theorem tab_l1 (g : GR m) (h : Sl m s r) {i : Nat} (hi : i < r.length) {found : List (List Ent)} (hf : i + 1 < r.length → ∃ T, found[0]? = some T ∧ Row m s (i + 1) T) {k : Nat} {w : Int} (hk : m[k]? = some w) {T : List Ent} (H : Here m s i k T) :
    ∃ T', N.tables_of_l1 r 5 found (i : Int) T ((k : Int), w) = .ok T' ∧ Here m s i (k + 1) T' := by
  have lb := lim_big
  have m40 := g.n40
  have fit := h.fit
  have hkl := (List.getElem?_eq_some_iff.mp hk).1
  have lenT := H.len
  have hr := List.getElem?_eq_getElem hi
  have own0 : k = s + i → absI (r[i] - w) = 0 := fun e => by
    have := h.at_ i hi
    rw [hr, ← e, hk] at this
    rw [Option.some.inj this, Int.sub_self]; rfl
  unfold N.tables_of_l1
  rw [getL_nat hr, Res.ok_bind]
  dsimp only
  by_cases hlast : (i : Int) = lenL r - 1
  · rw [decide_eq_true hlast, if_pos rfl, pushL_is (by omega)]
    refine ⟨_, rfl, H.push (fun p e => by cases e; exact ⟨abs_0 _, Int.le_refl _⟩) fun e => ⟨1, by rw [own0 e], Int.le_refl _⟩⟩
  · unfold lenL at hlast
    obtain ⟨T1, e1, R1⟩ := hf (by omega)
    have l1 := R1.len
    obtain ⟨e, q1, q2, q3⟩ := behind_is (later := T1) (there := (k : Int)) (own := absI (r[i] - w)) (by omega) (by unfold lenL; omega) (abs_0 _) (by omega) R1.ok
    rw [decide_eq_false (by unfold lenL; exact hlast), if_neg (by decide), (show getL found (0 : Int) = .ok T1 from getL_nat (k := 0) e1), Res.ok_bind, q1, Res.ok_bind, pushL_is (by omega)]
    refine ⟨_, rfl, H.push q2 fun ek => q3 (own0 ek) ?_⟩
    obtain ⟨x, hx, hz⟩ := R1.z
    exact ⟨x, by rw [show ((k : Int) + 1).toNat = s + (i + 1) by omega]; exact hx, hz⟩
theorem tab_l2 (g : GR m) (h : Sl m s r) {i : Nat} (hi : i < r.length) {found : List (List Ent)} (hlen : found.length ≤ 100) (hf : i + 1 < r.length → ∃ T, found[0]? = some T ∧ Row m s (i + 1) T) : ∃ T, N.tables_of_l2 m r 5 found (i : Int) = .ok (T :: found) ∧ Row m s i T := by
  have lb := lim_big
  have fit := h.fit
  obtain ⟨T, e, H⟩ := foldR_invN (f := N.tables_of_l1 r 5 found (i : Int)) (I := fun k T => Here m s i k T) (xs := enumL m) (s := []) (n := 0) (fun k p hp T H => by
    obtain ⟨e1, e2⟩ := enumL_get hp
    obtain ⟨p1, p2⟩ := p
    dsimp only at e1 e2
    subst e1
    rw [Nat.zero_add] at H ⊢
    exact tab_l1 g h hi hf e2 H) ⟨rfl, by simp, fun q => absurd q (Nat.not_lt_zero _)⟩
  rw [Nat.zero_add, enumL_len] at H
  refine ⟨T, ?_, H.len, H.ok, H.z (by omega)⟩
  unfold N.tables_of_l2
  dsimp only
  rw [e, Res.ok_bind, List.append_nil, mkL_is (by rw [List.length_cons]; omega)]; rfl
structure Tabs (m r : List Int) (s k : Nat) (F : List (List Ent)) : Prop where
  len : F.length = k
  row : ∀ j T, F[j]? = some T → Row m s (r.length - k + j) T
theorem tables_is (g : GR m) (h : Sl m s r) : ∃ F, N.tables_of m r 5 = .ok F ∧ Tabs m r s r.length F := by
  have n2 := h.n2
  have fit := h.fit
  have m40 := g.n40
  have hl : lenL r = (r.length : Int) := rfl
  have lb := lim_big
  have dl : (downL (lenL r - 1) (-(1 : Int))).length = r.length := by unfold downL; rw [List.length_map, List.length_range]; omega
  obtain ⟨F, e, H⟩ := foldR_invN (f := N.tables_of_l2 m r 5) (I := fun k F => Tabs m r s k F) (xs := downL (lenL r - 1) (-(1 : Int))) (s := []) (n := 0) (fun k x hk F H => by
    have hkl := (List.getElem?_eq_some_iff.mp hk).1
    rw [dl] at hkl
    rw [Nat.zero_add] at H ⊢
    unfold downL at hk
    rw [List.getElem?_map, List.getElem?_range (by omega)] at hk
    have hx : x = ((r.length - 1 - k : Nat) : Int) := by
      have : lenL r - 1 - (k : Int) = x := Option.some.inj hk
      omega
    subst hx
    have lF := H.len
    obtain ⟨T, q1, q2⟩ := tab_l2 g h (i := r.length - 1 - k) (by omega) (found := F) (by omega) fun hi => by
      have : F[0]? = some (F[0]'(by omega)) := List.getElem?_eq_getElem _
      refine ⟨_, this, ?_⟩
      have := H.row 0 _ this
      rw [show r.length - 1 - k + 1 = r.length - k + 0 by omega]; exact this
    refine ⟨_, q1, by rw [List.length_cons, lF], fun j T' hj => ?_⟩
    cases j with
    | zero =>
      cases hj
      rw [show r.length - (k + 1) + 0 = r.length - 1 - k by omega]; exact q2
    | succ j =>
      have := H.row j T' (by simpa using hj)
      rw [show r.length - (k + 1) + (j + 1) = r.length - k + j by omega]; exact this) ⟨rfl, fun j T hj => by simp at hj⟩
  rw [Nat.zero_add, dl] at H
  refine ⟨F, ?_, H⟩
  unfold N.tables_of
  dsimp only
  have dr : downR (lenL r - 1) (-(1 : Int)) = .ok (downL (lenL r - 1) (-(1 : Int))) := if_pos ⟨by omega, by omega, by decide, by decide, by omega⟩
  rw [dr, Res.ok_bind, e]; rfl
end
end Law
end
section
set_option Elab.async false
set_option linter.all false
set_option maxRecDepth 100000
set_option maxHeartbeats 1000000
noncomputable section
namespace Law
open Vs.Enc (toD)
open PySem PySem.Spec PyProof.Rows Vs
def isS (e : Ent) : Bool := !decide (e = none)
def val (e : Ent) : Int × Int := e.getD (0, 0)
theorem isS_some {e : Ent} (h : isS e = true) : e = some (val e) := by
  cases e with
  | none => cases h
  | some p => rfl
section
variable {m r : List Int} {s : Nat}
theorem firsts {T : List Ent} (R : Row m s 0 T) : (T.filter isS).map val ≠ [] ∧ (∀ p ∈ (T.filter isS).map val, 0 ≤ p.1 ∧ 1 ≤ p.2) ∧ ∃ p ∈ (T.filter isS).map val, p.1 = 0 := by
  obtain ⟨x, hx, w, e, hw⟩ := R.z
  have hm : val x ∈ (T.filter isS).map val := List.mem_map.mpr ⟨x, List.mem_filter.mpr ⟨List.mem_of_getElem? hx, by rw [e]; rfl⟩, rfl⟩
  refine ⟨fun z => by rw [z] at hm; simp at hm, fun p hp => ?_, val x, hm, by rw [e]; rfl⟩
  obtain ⟨y, hy, rfl⟩ := List.mem_map.mp hp
  obtain ⟨h1, h2⟩ := List.mem_filter.mp hy
  exact R.ok y h1 _ (isS_some h2)
theorem first_row (g : GR m) (h : Sl m s r) : ∃ F T, N.tables_of m r 5 = .ok F ∧ Tabs m r s r.length F ∧ F[0]? = some T ∧ Row m s 0 T := by
  have n2 := h.n2
  obtain ⟨F, e, H⟩ := tables_is g h
  have lF := H.len
  have e0 : F[0]? = some (F[0]'(by omega)) := List.getElem?_eq_getElem _
  have := H.row 0 _ e0
  rw [Nat.sub_self, Nat.zero_add] at this
  exact ⟨F, _, e, H, e0, this⟩
theorem count_is (g : GR m) (h : Sl m s r) : ∃ c, N.count_least m r 5 = .ok c ∧ 1 ≤ c := by
  obtain ⟨F, T, e1, H, e2, R⟩ := first_row g h
  obtain ⟨f1, f2, f3⟩ := firsts R
  obtain ⟨k, w, q1, q2, q3, q4, q5⟩ := least_of f1 f2
  obtain ⟨xs, k1, k2⟩ := Res.eq_ok_of_bind q1
  refine ⟨sumI w, ?_, q4⟩
  unfold N.count_least
  rw [laid_ok g h, Res.ok_bind, e1, Res.ok_bind, (show getL F (0 : Int) = .ok T from getL_nat (k := 0) e2), Res.ok_bind, (show lcR (fun ξ4 : Ent => Res.ok (!decide (ξ4 = none))) (fun ξ4 => unO ξ4 >>= fun τ5 => Res.ok τ5) T = .ok ((T.filter isS).map val) from lcR_pure (fun _ _ => rfl) (fun x _ hb => by rw [isS_some hb]; rfl)), Res.ok_bind, k1, Res.ok_bind, k2, Res.ok_bind, q2, Res.ok_bind]
end
end Law
end
section
set_option Elab.async false
set_option linter.all false
set_option maxRecDepth 100000
set_option maxHeartbeats 1000000
noncomputable section
namespace Law
open Vs.Enc (toD)
open PySem PySem.Spec PyProof.Rows Vs
theorem foldC_stop {S α : Type} {f : S → α → Res (Ctl S S)} {J : S → Prop} {s : S} : ∀ {xs : List α}, (∀ x ∈ xs, f s x = .ok (.nx s) ∨ ∃ s', f s x = .ok (.ex s') ∧ J s') → ∃ t, foldC f xs s = .ok t ∧ (joinC t = s ∨ J (joinC t))
  | [], _ => ⟨.nx s, rfl, .inl rfl⟩
  | x :: xs, h => by
    unfold foldC
    rcases h x List.mem_cons_self with e | ⟨s', e, h'⟩
    · rw [e]
      exact foldC_stop fun y hy => h y (List.mem_cons_of_mem _ hy)
    · rw [e]
      exact ⟨.ex s', rfl, .inr h'⟩
section
variable {m r : List Int} {s : Nat}
/-- places found: some, all within -/
def InM (m : List Int) (l : List Int) : Prop := l ≠ [] ∧ ∀ x ∈ l, 0 ≤ x ∧ x < lenL m
theorem InM.snoc {l : List Int} {x : Int} (h : InM m l) (h0 : 0 ≤ x) (h1 : x < lenL m) : InM m (l ++ [x]) := ⟨by simp, fun y hy => by
  rcases List.mem_append.mp hy with q | q
  · exact h.2 y q
  · rw [List.mem_singleton.mp q]; exact ⟨h0, h1⟩⟩
theorem lay_step (g : GR m) (h : Sl m s r) {F : List (List Ent)} (H : Tabs m r s r.length F) {i : Nat} (h1 : 1 ≤ i) (hi : i < r.length) {left : Int} {l : List Int} (hl : l.length ≤ 2000) (B : InM m l) :
    ∃ left' l', N.least_laying_l2 m r 5 F (left, l) (i : Int) = .ok (left', l') ∧ InM m l' ∧ l'.length ≤ l.length + 40 := by
  have lb := lim_big
  have m40 := g.n40
  have fit := h.fit
  have lF := H.len
  obtain ⟨b0, b1⟩ := B.2 _ (List.getLast_mem B.1)
  have hr : getL r ((i : Int) - 1) = .ok (r[i - 1]'(by omega)) := by
    rw [show (i : Int) - 1 = ((i - 1 : Nat) : Int) by omega]; exact getL_lt (by omega)
  obtain ⟨w, _, hm, _⟩ := getL_is (xs := m) (i := l.getLast B.1) b0 b1
  have hF : F[i]? = some (F[i]'(by omega)) := List.getElem?_eq_getElem _
  have R := H.row i _ hF
  have lT := R.len
  unfold N.least_laying_l2
  dsimp only
  rw [show (-(1 : Int)) = -1 from rfl, getL_neg1 B.1, Res.ok_bind, hr, Res.ok_bind, hm, Res.ok_bind]
  have hL : lenL m = (m.length : Int) := rfl
  rw [rangeR_is (by omega) (by omega) (by omega) (by omega), Res.ok_bind]
  obtain ⟨t, e, q⟩ := foldC_stop (f := N.least_laying_l1 5 F (i : Int) (l.getLast B.1)) (J := fun σ : List Int × Int => InM m σ.1 ∧ σ.1.length ≤ l.length + 1) (xs := rangeL (l.getLast B.1 + 1) (lenL m)) (s := (l, left - absI (r[i - 1]'(by omega) - w))) (fun x hx => by
    have hx := mem_rangeL.mp hx
    obtain ⟨v, _, hv, _⟩ := getL_is (xs := F[i]'(by omega)) (i := x) (by omega) (by omega)
    unfold N.least_laying_l1
    rw [getL_nat hF, Res.ok_bind, hv, Res.ok_bind]
    cases v with
    | none => exact .inl rfl
    | some p =>
      have eu : unO (some p) = Res.ok p := rfl
      rw [decide_eq_false (by simp), Bool.not_false, if_pos rfl, eu, Res.ok_bind, mulI_l (by decide) (by decide), Res.ok_bind, Res.ok_bind]
      dsimp only
      by_cases hc : p.1 + 5 * (x - l.getLast B.1 - 1) = left - absI (r[i - 1]'(by omega) - w)
      · rw [decide_eq_true hc, if_pos rfl, pushL_is (by omega)]
        exact .inr ⟨_, rfl, B.snoc (by omega) (by omega), by simp⟩
      · rw [decide_eq_false hc]
        exact .inl rfl)
  rw [e, Res.ok_bind]
  refine ⟨(joinC t).2, (joinC t).1, rfl, ?_⟩
  rcases q with q | q
  · rw [q]; exact ⟨B, Nat.le_add_right _ _⟩
  · exact ⟨q.1, by have := q.2; omega⟩
end
end Law
end
section
set_option Elab.async false
set_option linter.all false
set_option maxRecDepth 100000
set_option maxHeartbeats 1000000
noncomputable section
namespace Law
open Vs.Enc (toD)
open PySem PySem.Spec PyProof.Rows Vs
section
variable {m r : List Int} {s : Nat}
theorem zero_t (p : Int × Ent) : ((if (!decide (p.2 = none)) = true then (unO p.2 >>= fun t => Res.ok (decide (t.1 = (0 : Int)))) else .ok false) >>= fun t => Res.ok t) = Res.ok (isS p.2 && decide ((val p.2).1 = 0)) := by
  obtain ⟨i, e⟩ := p
  cases e <;> rfl
theorem least_is (g : GR m) (h : Sl m s r) : ∃ l, N.least_laying m r 5 = .ok (0, l) := by
  have n2 := h.n2
  have fit := h.fit
  have m40 := g.n40
  have hl : lenL r = (r.length : Int) := rfl
  have hL : lenL m = (m.length : Int) := rfl
  obtain ⟨F, T, e1, H, e2, R⟩ := first_row g h
  have lT := R.len
  obtain ⟨f1, f2, f3⟩ := firsts R
  obtain ⟨k, w, q1, q2, q3, q4, q5⟩ := least_of f1 f2
  have k0 := q5 f3
  subst k0
  rw [lcR_map (g := fun p : Int × Int => p.1) fun _ _ => rfl, Res.ok_bind, List.map_map] at q1
  obtain ⟨x, hx, v, ex, _⟩ := R.z
  have hmem : ((s : Int), x) ∈ (enumL T).filter fun p => isS p.2 && decide ((val p.2).1 = 0) := List.mem_filter.mpr ⟨List.mem_of_getElem? (enumL_at (by simpa using hx)), by rw [ex]; rfl⟩
  have hne : ((enumL T).filter fun p => isS p.2 && decide ((val p.2).1 = 0)) ≠ [] := fun z => by rw [z] at hmem; simp at hmem
  obtain ⟨p, ps, ep⟩ := List.exists_cons_of_ne_nil hne
  have hp : p ∈ enumL T := (List.mem_filter.mp (show p ∈ (enumL T).filter _ by rw [ep]; exact List.mem_cons_self)).1
  obtain ⟨j, j1, j2⟩ := mem_enumL hp
  have jl := (List.getElem?_eq_some_iff.mp j2).1
  obtain ⟨σ, g1, g2⟩ := foldR_invN (f := N.least_laying_l2 m r 5 F) (I := fun k σ => InM m σ.2 ∧ σ.2.length ≤ 1 + 40 * k) (xs := rangeL 1 (lenL r)) (s := ((0 : Int), [p.1])) (n := 0) (fun k y hk σ ⟨i1, i2⟩ => by
    have hkl := (List.getElem?_eq_some_iff.mp hk).1
    rw [rangeL_length] at hkl
    rw [rangeL_get hkl] at hk
    have hy : ((k + 1 : Nat) : Int) = y := by
      have : (1 : Int) + (k : Int) = y := Option.some.inj hk
      omega
    subst hy
    rw [Nat.zero_add] at i2 ⊢
    obtain ⟨left, l⟩ := σ
    obtain ⟨a, b, z1, z2, z3⟩ := lay_step g h H (i := k + 1) (by omega) (by omega) (left := left) (l := l) (by dsimp only at i2; omega) i1
    exact ⟨_, z1, z2, by dsimp only at i2 ⊢; omega⟩) ⟨⟨by simp, fun y hy => by rw [List.mem_singleton.mp hy, j1]; omega⟩, by simp⟩
  refine ⟨σ.2, ?_⟩
  unfold N.least_laying
  have eT : getL F (0 : Int) = .ok T := getL_nat (k := 0) e2
  rw [laid_ok g h, Res.ok_bind, e1, Res.ok_bind, eT, Res.ok_bind, (show lcR (fun ξ4 : Ent => Res.ok (!decide (ξ4 = none))) (fun ξ4 => unO ξ4 >>= fun τ5 => Res.ok τ5.1) T = .ok ((T.filter isS).map ((fun p : Int × Int => p.1) ∘ val)) from lcR_pure (fun _ _ => rfl) (fun x _ hb => by rw [isS_some hb]; rfl)), Res.ok_bind, q1, Res.ok_bind, Res.ok_bind]
  rw [lcR_pure (b := fun p : Int × Ent => isS p.2 && decide ((val p.2).1 = 0)) (g := fun p => p.1) (fun p _ => zero_t p) (fun _ _ _ => rfl), Res.ok_bind, ep, (show getL ((p :: ps).map fun p => p.1) (0 : Int) = .ok p.1 from getL_nat (k := 0) rfl), Res.ok_bind]
  dsimp only
  rw [rangeR_is (by decide) (by decide) (by omega) (by omega), Res.ok_bind, g1]; rfl
end
end Law
end
section
set_option Elab.async false
set_option linter.all false
set_option maxRecDepth 100000
set_option maxHeartbeats 1000000
noncomputable section
namespace Law
open Vs.Enc (toD)
open PySem PySem.Spec PyProof.Rows Vs
theorem l3_ok {m : List Int} (g : GR m) {rows : List (List Int)} {starts : List Int} {k s : Nat} {r : List Int} (hr : rows[k]? = some r) (hs : starts[k]? = some (s : Int)) (h : Sl m s r) : N.law_l3 m (rows, starts) () (k : Int) = .ok (.nx ()) := by
  have n2 := h.n2
  have fit := h.fit
  have m40 := g.n40
  have hl : lenL r = (r.length : Int) := rfl
  obtain ⟨l, e1⟩ := least_is g h
  obtain ⟨c, e2, c1⟩ := count_is g h
  obtain ⟨sh, e3, e4, e5⟩ := best_is g h
  unfold N.law_l3
  dsimp only
  rw [getL_nat hr, Res.ok_bind, getL_nat hs, Res.ok_bind, rangeR_is (by omega) (by omega) (by omega) (by omega), Res.ok_bind, agree_is g (h.gr g), Res.ok_bind, sl_full h, decide_eq_true rfl, cost_is g h, Res.ok_bind, decide_eq_true rfl]
  rw [Bool.not_true, if_neg Bool.false_ne_true, Res.ok_bind, if_neg Bool.false_ne_true, e1, Res.ok_bind, decide_eq_true rfl, Bool.not_true, if_neg Bool.false_ne_true, e2, Res.ok_bind, decide_eq_false (by omega), Res.ok_bind, if_neg Bool.false_ne_true, e3, Res.ok_bind]
  have en : decide ((some sh : Option Int) = none) = false := decide_eq_false (by simp)
  have eu : unO (some sh) = Res.ok sh := rfl
  rw [en, if_neg Bool.false_ne_true, eu, Res.ok_bind, agree_is g (h.gr g), Res.ok_bind, e4, decide_eq_true rfl, Bool.not_true, if_neg Bool.false_ne_true, Res.ok_bind, decide_eq_false (by omega)]
  rfl
end Law
end
section
set_option Elab.async false
set_option linter.all false
set_option maxRecDepth 100000
set_option maxHeartbeats 1000000
noncomputable section
namespace Law
open Vs.Enc (toD)
open PySem PySem.Spec PyProof.Rows Vs
theorem l5_ok {m : List Int} (g : GR m) {rows : List (List Int)} {starts : List Int} {i j sa sb : Nat} {ra rb : List Int} (h1 : rows[i]? = some ra) (h2 : rows[j]? = some rb) (h3 : starts[i]? = some (sa : Int)) (h4 : starts[j]? = some (sb : Int)) (ha : Sl m sa ra) (hb : Sl m sb rb) : N.law_l5 (rows, starts) (i : Int) () (j : Int) = .ok (.nx ()) := by
  unfold N.law_l5
  dsimp only
  rw [getL_nat h1, Res.ok_bind, getL_nat h2, Res.ok_bind, getL_nat h4, Res.ok_bind, getL_nat h3, Res.ok_bind, agree_is (ha.gr g) (hb.gr g), Res.ok_bind]
  rw [agr_same fun p hp hin => ?_, decide_eq_true rfl]
  · rfl
  · obtain ⟨k, e1, e2⟩ := mem_enumL hp
    have kl := (List.getElem?_eq_some_iff.mp e2).1
    rw [ris_len] at kl
    unfold inA at hin
    obtain ⟨q1, q2⟩ := Bool.and_eq_true_iff.mp hin
    have q1 := of_decide_eq_true q1
    have q2 := of_decide_eq_true q2
    unfold lenL at q2
    rw [ris_len] at q2
    rw [ris_sl ha (by omega), ← e2, ris_sl hb kl]
    congr 1
    omega
end Law
end
section
set_option Elab.async false
set_option linter.all false
set_option maxRecDepth 100000
set_option maxHeartbeats 1000000
noncomputable section
namespace Law
open Vs.Enc (toD)
open PySem PySem.Spec PyProof.Rows Vs
theorem master_made (d : List Int) {w : Int} (hw : 0 < w) (hw2 : w ≤ 999) : ∃ m, N._law_row d 10 6 40 w = .ok m ∧ GR m ∧ 6 ≤ m.length := by
  obtain ⟨n, e1, n0, n1⟩ := mix_ok (d := d) 10 (many := 40 - 6 + 1) (by decide)
  obtain ⟨m, e2, e3, e4⟩ := lcR_all (f := fun x => Dr._law_mix d (10 + 1 + x) w >>= fun t => Res.ok (1 + t)) (Q := fun x => 1 ≤ x ∧ x ≤ 1000) (xs := rangeL 0 (6 + n)) fun x _ => by
    obtain ⟨v, q1, q2, q3⟩ := mix_ok (d := d) (10 + 1 + x) hw
    exact ⟨_, by rw [q1]; rfl, by omega, by omega⟩
  rw [rangeL_length] at e3
  refine ⟨m, ?_, ⟨by omega, by omega, e4⟩, by omega⟩
  unfold N._law_row
  rw [mix_is, e1, Res.ok_bind, rangeR_is (by decide) (by decide) (by omega) (by omega), Res.ok_bind, e2]; rfl
end Law
end
section
set_option Elab.async false
set_option linter.all false
set_option maxRecDepth 100000
set_option maxHeartbeats 1000000
noncomputable section
namespace Law
open Vs.Enc (toD)
open PySem PySem.Spec PyProof.Rows Vs
theorem cut_sl {m : List Int} {s e : Nat} (h : s + 2 ≤ m.length) (he : s + 2 ≤ e) : Sl m s (cutL m (some (s : Int)) (some (e : Int))) := by
  have b1 : bnd m.length 0 (some (s : Int)) = s := bnd_nat (by omega)
  have b2 : bnd m.length m.length (some (e : Int)) = min e m.length := by
    show (if (e : Int) < 0 then (max ((e : Int) + m.length) 0).toNat else (min (e : Int) m.length).toNat) = _
    rw [if_neg (by omega)]; omega
  have eq : cutL m (some (s : Int)) (some (e : Int)) = (m.drop s).take (min e m.length - s) := by
    unfold cutL
    rw [b1, b2]
  rw [eq]
  refine ⟨by rw [List.length_take, List.length_drop]; omega, by rw [List.length_take, List.length_drop]; omega, fun i hi => ?_⟩
  rw [List.length_take, List.length_drop] at hi
  rw [List.getElem?_take, if_pos (by omega), List.getElem?_drop]
/-- rows and their starts -/
structure Cut (m : List Int) (k : Nat) (σ : List (List Int) × List Int) : Prop where
  l1 : σ.1.length = k
  l2 : σ.2.length = k
  at_ : ∀ i, i < k → ∃ r s, σ.1[i]? = some r ∧ σ.2[i]? = some ((s : Nat) : Int) ∧ Sl m s r
theorem cut_step {m d : List Int} (h6 : 6 ≤ m.length) {k : Nat} (hk : k ≤ 100) {σ : List (List Int) × List Int} (C : Cut m k σ) (x : Int) : ∃ σ', N.law_l1 d m σ x = .ok σ' ∧ Cut m (k + 1) σ' := by
  have lb := lim_big
  have c1 := C.l1
  have c2 := C.l2
  have hL : lenL m = (m.length : Int) := rfl
  obtain ⟨a, e1, a0, a1⟩ := mix_ok (d := d) (60 + 2 * x) (many := lenL m - 1) (by omega)
  obtain ⟨t, e2, t0, t1⟩ := mix_ok (d := d) (61 + 2 * x) (many := 20) (by decide)
  obtain ⟨s, rfl⟩ : ∃ s : Nat, a = (s : Int) := ⟨a.toNat, by omega⟩
  obtain ⟨e, he⟩ : ∃ e : Nat, (s : Int) + 2 + t = (e : Int) := ⟨((s : Int) + 2 + t).toNat, by omega⟩
  have S := cut_sl (m := m) (s := s) (e := e) (by omega) (by omega)
  have m2 : mulI 2 x = .ok (2 * x) := mulI_l (by decide) (by decide)
  refine ⟨(σ.1 ++ [cutL m (some (s : Int)) (some (e : Int))], σ.2 ++ [(s : Int)]), ?_, by simp [c1], by simp [c2], fun i hi => ?_⟩
  · unfold N.law_l1
    rw [m2, Res.ok_bind, mix_is, e1, Res.ok_bind, Res.ok_bind, e2, Res.ok_bind, he, pushL_is (by omega), Res.ok_bind, pushL_is (by omega)]; rfl
  · by_cases q : i < k
    · obtain ⟨r, s', z1, z2, z3⟩ := C.at_ i q
      exact ⟨r, s', by rw [List.getElem?_append_left (by omega)]; exact z1, by rw [List.getElem?_append_left (by omega)]; exact z2, z3⟩
    · have : i = k := by omega
      subst this
      exact ⟨_, s, by rw [List.getElem?_append_right (by omega), c1, Nat.sub_self]; rfl, by rw [List.getElem?_append_right (by omega), c2, Nat.sub_self]; rfl, S⟩
end Law
end
section
set_option Elab.async false
set_option linter.all false
set_option maxRecDepth 100000
set_option maxHeartbeats 1000000
noncomputable section
namespace Law
open Vs.Enc (toD)
open PySem PySem.Spec PyProof.Rows Vs
/-- no record is unlike -/
theorem unlike_none {R : List (T3 Int Int Int)} {told : List Int} (h : ∀ q ∈ R, ∃ x y, getL told q.b = .ok y ∧ getL told q.a = .ok x ∧ y - x = q.c) : N.unlike_record R told = .ok none := by
  unfold N.unlike_record
  rw [foldC_unit fun p hp => ?_]
  · rfl
  · obtain ⟨k, _, e⟩ := mem_enumL hp
    obtain ⟨x, y, e1, e2, e3⟩ := h p.2 (List.mem_of_getElem? e)
    unfold N.unlike_record_l1
    rw [e1, Res.ok_bind, e2, Res.ok_bind, decide_eq_true e3]; rfl
end Law
end
section
set_option Elab.async false
set_option linter.all false
set_option maxRecDepth 100000
set_option maxHeartbeats 1000000
noncomputable section
namespace Law
open Vs.Enc (toD)
open PySem PySem.Spec PyProof.Rows Vs
/-- a record between i and j, as the starts s tell -/
def RecOk (s : Nat → Int) (n : Nat) (q : T3 Int Int Int) : Prop := ∃ i j : Nat, i < n ∧ j < n ∧ i ≠ j ∧ q = ⟨(i : Int), (j : Int), s j - s i⟩
structure Recs (s : Nat → Int) (n k : Nat) (R : List (T3 Int Int Int)) : Prop where
  len : R.length + 1 = k
  ok : ∀ q ∈ R, RecOk s n q
  link : ∀ b, 1 ≤ b → b < k → ∃ a, a < b ∧ ((⟨(a : Int), (b : Int), s b - s a⟩ : T3 Int Int Int) ∈ R ∨ (⟨(b : Int), (a : Int), s a - s b⟩ : T3 Int Int Int) ∈ R)
theorem recs_step {d : List Int} {rows : List (List Int)} {starts : List Int} {s : Nat → Int} {n k : Nat} (hs : ∀ i, i < n → starts[i]? = some (s i)) (h1 : 1 ≤ k) (hk : k < n) (hn : n ≤ 100) {R : List (T3 Int Int Int)} (C : Recs s n k R) : ∃ R', N.law_l2 d (rows, starts) R (k : Int) = .ok R' ∧ Recs s n (k + 1) R' := by
  have lb := lim_big
  have cl := C.len
  obtain ⟨a', e1, a0, a1⟩ := mix_ok (d := d) (80 + (k : Int)) (many := (k : Int)) (by omega)
  obtain ⟨a, rfl⟩ : ∃ a : Nat, a' = (a : Int) := ⟨a'.toNat, by omega⟩
  obtain ⟨t, e2, t0, t1⟩ := mix_ok (d := d) (90 + (k : Int)) (many := 2) (by decide)
  have gk := getL_nat (hs k hk)
  have ga := getL_nat (hs a (by omega))
  have put : ∀ q : T3 Int Int Int, RecOk s n q → (q = ⟨(a : Int), (k : Int), s k - s a⟩ ∨ q = ⟨(k : Int), (a : Int), s a - s k⟩) → Recs s n (k + 1) (R ++ [q]) := fun q h hq => ⟨by rw [List.length_append, List.length_singleton]; omega, fun y hy => by
    rcases List.mem_append.mp hy with z | z
    · exact C.ok y z
    · rw [List.mem_singleton.mp z]; exact h, fun b b1 bk => by
    by_cases hb : b < k
    · obtain ⟨x, x1, x2⟩ := C.link b b1 hb
      exact ⟨x, x1, x2.imp (List.mem_append_left _) (List.mem_append_left _)⟩
    · have : b = k := by omega
      subst this
      refine ⟨a, by omega, ?_⟩
      rcases hq with rfl | rfl
      · exact .inl (by simp)
      · exact .inr (by simp)⟩
  unfold N.law_l2
  dsimp only
  rw [mix_is, e1, Res.ok_bind, gk, Res.ok_bind, ga, Res.ok_bind, Res.ok_bind, Res.ok_bind, e2, Res.ok_bind]
  rcases (show t = 0 ∨ t = 1 by omega) with rfl | rfl
  · refine ⟨R ++ [⟨(a : Int), (k : Int), s k - s a⟩], ?_, put _ ⟨a, k, by omega, hk, by omega, rfl⟩ (.inl rfl)⟩
    show (Res.ok _ >>= _) = _
    rw [Res.ok_bind, pushL_is (by omega)]; rfl
  · refine ⟨R ++ [⟨(k : Int), (a : Int), s a - s k⟩], ?_, put _ ⟨k, a, hk, by omega, by omega, rfl⟩ (.inr rfl)⟩
    show (Res.ok _ >>= _) = _
    rw [Res.ok_bind, pushL_is (by omega)]; rfl
end Law
end
section
set_option Elab.async false
set_option linter.all false
set_option maxRecDepth 100000
set_option maxHeartbeats 1000000
noncomputable section
namespace Law
open Vs.Enc (toD)
open PySem PySem.Spec PyProof.Rows Vs
/-! ### the steps from a wood -/
def stG (wood : Int) (p : Int × T3 Int Int Int) : List (T4 Int Int Int Int) :=
  (if p.2.a = wood then [T4.mk p.1 1 p.2.b p.2.c] else []) ++ (if p.2.b = wood then [T4.mk p.1 (-1) p.2.a (-p.2.c)] else [])
theorem steps_is {R : List (T3 Int Int Int)} {wood : Int} (h : R.length ≤ 1000) : N.steps_of R wood = .ok ((enumL R).flatMap (stG wood)) := by
  have lb := lim_big
  have gl : ∀ p ∈ enumL R, (stG wood p).length ≤ 2 := fun p _ => by
    unfold stG
    rw [List.length_append]
    split <;> split <;> simp
  have tot := flatMap_len (n := 2) gl
  rw [enumL_len] at tot
  have step : ∀ p ∈ enumL R, ∀ σ : List (T4 Int Int Int Int), σ.length + (stG wood p).length ≤ 4000 → N.steps_of_l1 wood σ p = .ok (σ ++ stG wood p) := fun p _ σ hσ => by
    unfold N.steps_of_l1 stG at *
    rw [List.length_append] at hσ
    by_cases h1 : p.2.a = wood
    · rw [if_pos h1] at hσ
      rw [decide_eq_true h1, if_pos rfl, if_pos h1, pushL_is (by simp at hσ; omega), Res.ok_bind, Res.ok_bind]
      by_cases h2 : p.2.b = wood
      · rw [if_pos h2] at hσ
        rw [decide_eq_true h2, if_pos rfl, if_pos h2, pushL_is (by simp at hσ ⊢; omega), Res.ok_bind, Res.ok_bind]
        simp
      · rw [decide_eq_false h2, if_neg (by decide), if_neg h2]; simp
    · rw [decide_eq_false h1, if_neg (by decide), if_neg h1, Res.ok_bind]
      by_cases h2 : p.2.b = wood
      · rw [if_pos h2] at hσ
        rw [decide_eq_true h2, if_pos rfl, if_pos h2, pushL_is (by simp at hσ; omega), Res.ok_bind, Res.ok_bind]
        simp
      · rw [decide_eq_false h2, if_neg (by decide), if_neg h2]; simp
  unfold N.steps_of
  dsimp only
  rw [foldR_flat (B := 4000) (s := []) step (by rw [List.length_nil]; omega), List.nil_append]; rfl
end Law
end
section
set_option Elab.async false
set_option linter.all false
set_option maxRecDepth 100000
set_option maxHeartbeats 1000000
noncomputable section
namespace Law
open Vs.Enc (toD)
open PySem PySem.Spec PyProof.Rows Vs
/-- a loop whose measure falls -/
theorem while_ok {S : Type} {c : S → Res Bool} {b : S → Res S} {I : S → Prop} {t : S → Bool} {μ : S → Nat} (hc : ∀ s, I s → c s = .ok (t s)) (hb : ∀ s, I s → t s = true → ∃ s', b s = .ok s' ∧ I s' ∧ μ s' < μ s) : ∀ (n : Nat) (s : S), μ s ≤ n → I s → ∃ s', whileR c b s = .ok s' ∧ I s' ∧ t s' = false
  | n, s, hn, hs => by
    cases e : t s with
    | false => exact ⟨s, whileR_stop (by rw [hc s hs, e]), hs, e⟩
    | true =>
      obtain ⟨s', e1, e2, e3⟩ := hb s hs e
      rw [whileR_step (by rw [hc s hs, e]) e1]
      cases n with
      | zero => omega
      | succ n => exact while_ok hc hb n s' (by omega) e2
end Law
end
section
set_option Elab.async false
set_option linter.all false
set_option maxRecDepth 100000
set_option maxHeartbeats 1000000
noncomputable section
namespace Law
open Vs.Enc (toD)
open PySem PySem.Spec PyProof.Rows Vs
def nn (f : List (Option Int)) : Nat := (f.filter fun o => decide (o = none)).length
theorem nn_set : ∀ {f : List (Option Int)} {j : Nat} {v : Int}, f[j]? = some none → nn (f.set j (some v)) + 1 = nn f
  | [], j, v, h => by simp at h
  | o :: f, 0, v, h => by
    simp at h; subst h
    unfold nn
    simp
  | o :: f, j + 1, v, h => by
    have := nn_set (f := f) (j := j) (v := v) (by simpa using h)
    unfold nn at *
    rw [List.set_cons_succ, List.filter_cons, List.filter_cons]
    cases o with
    | none => simp only [decide_true, if_true, List.length_cons]; omega
    | some x => rw [decide_eq_false (by simp)]; simpa using this
/-- woods told so far -/
structure Bfs (s : Nat → Int) (n : Nat) (wait : List Int) (found : List (Option Int)) (ways : List (List (Int × Int))) : Prop where
  fl : found.length = n
  wl : ways.length = n
  val : ∀ (i : Nat) v, found[i]? = some (some v) → v = s i - s 0
  zero : found[0]? = some (some 0)
  wt : ∀ x ∈ wait, ∃ i : Nat, x = (i : Int) ∧ i < n ∧ ∃ v, found[i]? = some (some v)
  room : wait.length + nn found ≤ n
  wy : ∀ w ∈ ways, w.length + nn found ≤ n
theorem bfs_step {s : Nat → Int} {n : Nat} (hn : n ≤ 100) {wait : List Int} {found : List (Option Int)} {ways : List (List (Int × Int))} {wood : Nat} (hw : wood < n) (hf : ∃ v, found[wood]? = some (some v)) (B : Bfs s n wait found ways) (rest : List Int) {k sg : Int} {j : Nat} (hj : j < n) :
    ∃ f' w' q', N.told_years_l1 ((wood : Int), rest) (found, ways, wait) (T4.mk k sg (j : Int) (s j - s wood)) = .ok (f', w', q') ∧ Bfs s n q' f' w' ∧ (∃ v, f'[j]? = some (some v)) ∧ (∀ (i : Nat) v, found[i]? = some (some v) → f'[i]? = some (some v)) ∧ (∀ x ∈ wait, x ∈ q') ∧ q'.length + 2 * nn f' ≤ wait.length + 2 * nn found ∧ (∀ (i : Nat) v, f'[i]? = some (some v) → (∃ u, found[i]? = some (some u)) ∨ (i : Int) ∈ q') := by
  have lb := lim_big
  obtain ⟨v, hv⟩ := hf
  have b1 := B.fl
  have b2 := B.wl
  have vw := B.val _ _ hv
  have ej : found[j]? = some (found[j]'(by omega)) := List.getElem?_eq_getElem _
  unfold N.told_years_l1
  dsimp only
  rw [getL_nat ej, Res.ok_bind]
  cases e : found[j]'(by omega) with
  | some u =>
    rw [decide_eq_false (by simp), if_neg (by decide)]
    exact ⟨found, ways, wait, rfl, B, ⟨u, by rw [ej, e]⟩, fun i v h => h, fun x h => h, Nat.le_refl _, fun i v h => .inl ⟨v, h⟩⟩
  | none =>
    have ej' : found[j]? = some none := by rw [ej, e]
    have cnt := nn_set (v := s j - s 0) ej'
    have r1 := B.room
    have ew : ways[wood]? = some (ways[wood]'(by omega)) := List.getElem?_eq_getElem _
    have lw := B.wy _ (List.getElem_mem (show wood < ways.length by omega))
    have eu : unO (some v) = Res.ok v := rfl
    have es : v + (s j - s wood) = s j - s 0 := by rw [vw]; omega
    have keep : ∀ (i : Nat) v, found[i]? = some (some v) → (found.set j (some (s j - s 0)))[i]? = some (some v) := fun i u h => by
      have : i ≠ j := fun z => by rw [z, ej'] at h; cases h
      rw [List.getElem?_set_ne (Ne.symm this)]; exact h
    rw [decide_eq_true rfl, if_pos rfl, getL_nat hv, Res.ok_bind, eu, Res.ok_bind, es, setL_nat (by omega), Res.ok_bind, getL_nat ew, Res.ok_bind, pushL_is (by omega), Res.ok_bind, setL_nat (by omega), Res.ok_bind, pushL_is (by omega), Res.ok_bind]
    refine ⟨found.set j (some (s j - s 0)), ways.set j (ways[wood]'(by omega) ++ [(k, sg)]), wait ++ [(j : Int)], rfl, ⟨by rw [List.length_set]; exact b1, by rw [List.length_set]; exact b2, fun i u h => ?_, keep 0 _ B.zero, fun x hx => ?_, by rw [List.length_append, List.length_singleton]; omega, fun w hw => ?_⟩, ⟨s j - s 0, List.getElem?_set_self (by omega)⟩, keep, fun x h => List.mem_append_left _ h, by rw [List.length_append, List.length_singleton]; omega, fun i u h => ?_⟩
    · by_cases z : i = j
      · rw [z, List.getElem?_set_self (by omega)] at h
        cases h; rw [z]
      · rw [List.getElem?_set_ne (Ne.symm z)] at h
        exact B.val i u h
    · rcases List.mem_append.mp hx with z | z
      · obtain ⟨i, z1, z2, u, z3⟩ := B.wt x z
        exact ⟨i, z1, z2, u, keep i u z3⟩
      · exact ⟨j, List.mem_singleton.mp z, hj, _, List.getElem?_set_self (by omega)⟩
    · rcases List.mem_or_eq_of_mem_set hw with z | z
      · have := B.wy w z
        omega
      · rw [z, List.length_append, List.length_singleton]; omega
    · by_cases z : i = j
      · exact .inr (by rw [z]; simp)
      · rw [List.getElem?_set_ne (Ne.symm z)] at h
        exact .inl ⟨u, h⟩
end Law
end
section
set_option Elab.async false
set_option linter.all false
set_option maxRecDepth 100000
set_option maxHeartbeats 1000000
noncomputable section
namespace Law
open Vs.Enc (toD)
open PySem PySem.Spec PyProof.Rows Vs
theorem popL_cons {α : Type} (x : α) (xs : List α) : popL (x :: xs) 0 = .ok (x, xs) := by
  have : idx (x :: xs).length 0 = some 0 := by unfold idx; rw [if_pos (by decide), if_pos (by rw [List.length_cons]; omega)]; rfl
  unfold popL
  rw [this]
  rfl
/-- what a step of a wood is -/
def StepOk (s : Nat → Int) (n wood : Nat) (p : T4 Int Int Int Int) : Prop := ∃ (k sg : Int) (j : Nat), j < n ∧ p = T4.mk k sg (j : Int) (s j - s wood)
theorem bfs_fold {s : Nat → Int} {n : Nat} (hn : n ≤ 100) {wood : Nat} (hw : wood < n) (rest : List Int) : ∀ (L : List (T4 Int Int Int Int)) (found : List (Option Int)) (ways : List (List (Int × Int))) (wait : List Int), (∀ p ∈ L, StepOk s n wood p) → (∃ v, found[wood]? = some (some v)) → Bfs s n wait found ways →
    ∃ f' w' q', foldR (N.told_years_l1 ((wood : Int), rest)) L (found, ways, wait) = .ok (f', w', q') ∧ Bfs s n q' f' w' ∧ (∀ p ∈ L, ∀ j : Nat, p.c = (j : Int) → ∃ v, f'[j]? = some (some v)) ∧ (∀ (i : Nat) v, found[i]? = some (some v) → f'[i]? = some (some v)) ∧ (∀ x ∈ wait, x ∈ q') ∧ q'.length + 2 * nn f' ≤ wait.length + 2 * nn found ∧ (∀ (i : Nat) v, f'[i]? = some (some v) → (∃ u, found[i]? = some (some u)) ∨ (i : Int) ∈ q')
  | [], found, ways, wait, _, _, B => ⟨found, ways, wait, rfl, B, by simp, fun i v h => h, fun x h => h, Nat.le_refl _, fun i v h => .inl ⟨v, h⟩⟩
  | p :: L, found, ways, wait, hL, hf, B => by
    obtain ⟨k, sg, j, hj, rfl⟩ := hL p List.mem_cons_self
    obtain ⟨f1, w1, q1, a1, a2, a3, a4, a5, a6, a7⟩ := bfs_step hn hw hf B rest (k := k) (sg := sg) hj
    obtain ⟨v, hv⟩ := hf
    obtain ⟨f2, w2, q2, c1, c2, c3, c4, c5, c6, c7⟩ := bfs_fold hn hw rest L f1 w1 q1 (fun y hy => hL y (List.mem_cons_of_mem _ hy)) ⟨v, a4 _ _ hv⟩ a2
    refine ⟨f2, w2, q2, ?_, c2, fun y hy i hi => ?_, fun i u h => c4 i u (a4 i u h), fun x h => c5 x (a5 x h), Nat.le_trans c6 a6, fun i u h => ?_⟩
    · show (N.told_years_l1 _ (found, ways, wait) _ >>= fun s' => foldR _ L s') = _
      rw [a1]; exact c1
    · rcases List.mem_cons.mp hy with rfl | hy
      · obtain ⟨u, hu⟩ := a3
        have : i = j := by
          have hi : (j : Int) = (i : Int) := hi
          omega
        rw [this]
        exact ⟨u, c4 _ _ hu⟩
      · exact c3 y hy i hi
    · rcases c7 i u h with ⟨z, hz⟩ | z
      · rcases a7 i z hz with z | z
        · exact .inl z
        · exact .inr (c5 _ z)
      · exact .inr z
/-- i and j stand in one record -/
def Edge (s : Nat → Int) (R : List (T3 Int Int Int)) (i j : Nat) : Prop := (⟨(i : Int), (j : Int), s j - s i⟩ : T3 Int Int Int) ∈ R ∨ (⟨(j : Int), (i : Int), s i - s j⟩ : T3 Int Int Int) ∈ R
theorem steps_ok {s : Nat → Int} {n : Nat} {R : List (T3 Int Int Int)} (ok : ∀ q ∈ R, RecOk s n q) {wood : Nat} : ∀ p ∈ (enumL R).flatMap (stG wood), StepOk s n wood p := fun p hp => by
  obtain ⟨q, hq, hp⟩ := List.mem_flatMap.mp hp
  obtain ⟨k, _, e⟩ := mem_enumL hq
  obtain ⟨i, j, hi, hj, ne, eq⟩ := ok q.2 (List.mem_of_getElem? e)
  unfold stG at hp
  rw [eq] at hp
  dsimp only at hp
  rcases List.mem_append.mp hp with h | h
  · split at h
    · rename_i z
      have z : i = wood := by omega
      rw [List.mem_singleton.mp h, z]
      exact ⟨_, _, j, hj, rfl⟩
    · simp at h
  · split at h
    · rename_i z
      have z : j = wood := by omega
      rw [List.mem_singleton.mp h, z]
      exact ⟨q.1, -1, i, hi, by rw [show -(s wood - s i) = s i - s wood by omega]⟩
    · simp at h
theorem steps_all {s : Nat → Int} {R : List (T3 Int Int Int)} {wood j : Nat} (h : Edge s R wood j) : ∃ p ∈ (enumL R).flatMap (stG wood), p.c = (j : Int) := by
  rcases h with h | h
  · obtain ⟨k, e⟩ := List.mem_iff_getElem?.mp h
    refine ⟨T4.mk (k : Int) 1 (j : Int) (s j - s wood), List.mem_flatMap.mpr ⟨_, List.mem_of_getElem? (enumL_at e), ?_⟩, rfl⟩
    unfold stG
    dsimp only
    rw [if_pos rfl]; simp
  · obtain ⟨k, e⟩ := List.mem_iff_getElem?.mp h
    refine ⟨T4.mk (k : Int) (-1) (j : Int) (-(s wood - s j)), List.mem_flatMap.mpr ⟨_, List.mem_of_getElem? (enumL_at e), ?_⟩, rfl⟩
    unfold stG
    dsimp only
    rw [if_pos (show ((wood : Nat) : Int) = wood from rfl)]; simp
/-- the loop's invariant -/
structure Lp (s : Nat → Int) (n : Nat) (R : List (T3 Int Int Int)) (σ : List Int × List (Option Int) × List (List (Int × Int))) : Prop where
  B : Bfs s n σ.1 σ.2.1 σ.2.2
  cl : ∀ (i : Nat) v, σ.2.1[i]? = some (some v) → (i : Int) ∈ σ.1 ∨ ∀ j, Edge s R i j → ∃ u, σ.2.1[j]? = some (some u)
theorem loop_step {s : Nat → Int} {n : Nat} (hn : n ≤ 100) {R : List (T3 Int Int Int)} (hR : R.length ≤ 1000) (ok : ∀ q ∈ R, RecOk s n q) {σ : List Int × List (Option Int) × List (List (Int × Int))} (I : Lp s n R σ) (ht : decide ((0 : Int) < lenL σ.1) = true) :
    ∃ σ', N.told_years_l2 R σ = .ok σ' ∧ Lp s n R σ' ∧ σ'.1.length + 2 * nn σ'.2.1 < σ.1.length + 2 * nn σ.2.1 := by
  obtain ⟨wait, found, ways⟩ := σ
  cases wait with
  | nil => exact absurd (of_decide_eq_true ht) (by unfold lenL; simp)
  | cons x rest =>
    obtain ⟨B, cl⟩ := I
    dsimp only at B cl ⊢
    obtain ⟨wood, rfl, hw, v, hv⟩ := B.wt x List.mem_cons_self
    have B' : Bfs s n rest found ways := ⟨B.fl, B.wl, B.val, B.zero, fun y hy => B.wt y (List.mem_cons_of_mem _ hy), by have := B.room; rw [List.length_cons] at this; omega, B.wy⟩
    obtain ⟨f, w, q, c1, c2, c3, c4, c5, c6, c7⟩ := bfs_fold hn hw rest _ found ways rest (steps_ok (wood := wood) ok) ⟨v, hv⟩ B'
    refine ⟨(q, f, w), ?_, ⟨c2, fun i u h => ?_⟩, by rw [List.length_cons]; dsimp only; omega⟩
    · unfold N.told_years_l2
      dsimp only
      rw [popL_cons, Res.ok_bind]
      dsimp only
      rw [steps_is hR, Res.ok_bind, c1]; rfl
    · dsimp only at h ⊢
      rcases c7 i u h with ⟨z, hz⟩ | z
      · rcases cl i z hz with y | y
        · rcases List.mem_cons.mp y with y | y
          · right
            intro j hj
            have : i = wood := by omega
            rw [this] at hj
            obtain ⟨p, p1, p2⟩ := steps_all hj
            exact c3 p p1 j p2
          · exact .inl (c5 _ y)
        · right
          intro j hj
          obtain ⟨u', hu'⟩ := y j hj
          exact ⟨u', c4 _ _ hu'⟩
      · exact .inl z
end Law
end
section
set_option Elab.async false
set_option linter.all false
set_option maxRecDepth 100000
set_option maxHeartbeats 1000000
noncomputable section
namespace Law
open Vs.Enc (toD)
open PySem PySem.Spec PyProof.Rows Vs
def yrs (s : Nat → Int) (n : Nat) : List Int := (List.range n).map fun i => s i - s 0
theorem unOs_map : ∀ l : List Int, unOs (l.map some) = .ok l
  | [] => rfl
  | x :: l => by
    show (unOs (l.map some) >>= _) = _
    rw [unOs_map l]; rfl
theorem nn_none (n : Nat) : nn (List.replicate n none) = n := by
  unfold nn
  rw [List.filter_eq_self.mpr fun o ho => by rw [(List.mem_replicate.mp ho).2]; rfl, List.length_replicate]
section
variable {s : Nat → Int} {n : Nat} {R : List (T3 Int Int Int)}
theorem first_wood (hn : n ≤ 100) (h1 : 1 ≤ n) (C : Recs s n n R) {ways : List (List (Int × Int))} (hw : ways = List.replicate n []) : ∃ W, N.told_years_l3 R (List.replicate n none, ways) 0 = .ok ((yrs s n).map some, W) := by
  have lb := lim_big
  have cl := C.len
  have e0 : (List.replicate n (none : Option Int))[0]? = some none := by rw [List.getElem?_replicate, if_pos (by omega)]
  have cnt := nn_set (v := 0) e0
  rw [nn_none] at cnt
  have bv : ∀ (i : Nat) (v : Int), ((List.replicate n (none : Option Int)).set 0 (some 0))[i]? = some (some v) → v = s i - s 0 := fun i v h => by
    by_cases z : i = 0
    · subst z
      rw [List.getElem?_set_self (by simp; omega)] at h
      cases h; omega
    · rw [List.getElem?_set_ne (Ne.symm z), List.getElem?_replicate] at h
      split at h <;> cases h
  have bz : ((List.replicate n (none : Option Int)).set 0 (some 0))[0]? = some (some 0) := List.getElem?_set_self (by simp; omega)
  have bw : ∀ w ∈ ways, w.length + nn ((List.replicate n (none : Option Int)).set 0 (some 0)) ≤ n := fun w hw' => by
    rw [hw] at hw'
    rw [(List.mem_replicate.mp hw').2, List.length_nil]; omega
  have B : Bfs s n [0] ((List.replicate n none).set 0 (some 0)) ways := ⟨by simp, by rw [hw]; simp, bv, bz, fun x hx => ⟨0, List.mem_singleton.mp hx, by omega, _, bz⟩, by simp; omega, bw⟩
  have I0 : Lp s n R ([0], (List.replicate n none).set 0 (some 0), ways) := ⟨B, fun i v h => by
    left
    by_cases z : i = 0
    · subst z; simp
    · dsimp only at h
      rw [List.getElem?_set_ne (Ne.symm z), List.getElem?_replicate] at h
      split at h <;> cases h⟩
  obtain ⟨σ, e, I, t⟩ := while_ok (c := N.told_years_c2) (b := N.told_years_l2 R) (I := Lp s n R) (t := fun σ => decide ((0 : Int) < lenL σ.1)) (μ := fun σ => σ.1.length + 2 * nn σ.2.1) (fun σ _ => rfl) (fun σ I ht => loop_step hn (by omega) C.ok I ht) _ _ (Nat.le_refl _) I0
  obtain ⟨wait, found, W⟩ := σ
  have hwait : wait = [] := by
    have t := of_decide_eq_false t
    unfold lenL at t
    exact List.length_eq_zero_iff.mp (by dsimp only at t; omega)
  subst hwait
  have all : ∀ b, b < n → ∃ v, found[b]? = some (some v) := by
    intro b
    induction b using Nat.strongRecOn with
    | ind b ih =>
      intro hb
      by_cases z : b = 0
      · subst z; exact ⟨0, I.B.zero⟩
      · obtain ⟨a, ab, link⟩ := C.link b (by omega) hb
        obtain ⟨v, hv⟩ := ih a ab (by omega)
        rcases I.cl a v hv with q | q
        · simp at q
        · exact q b link
  have ef : found = (yrs s n).map some := by
    apply List.ext_getElem?
    intro i
    have fl := I.B.fl
    dsimp only at fl
    by_cases hi : i < n
    · obtain ⟨v, hv⟩ := all i hi
      rw [hv, I.B.val i v hv]
      unfold yrs
      rw [List.getElem?_map, List.getElem?_map, List.getElem?_range hi]; rfl
    · rw [List.getElem?_eq_none (by omega), List.getElem?_eq_none (by unfold yrs; simp; omega)]
  refine ⟨W, ?_⟩
  unfold N.told_years_l3
  dsimp only
  rw [(show getL (List.replicate n (none : Option Int)) (0 : Int) = .ok none from getL_nat (k := 0) e0), Res.ok_bind, decide_eq_true rfl, if_pos rfl, (show setL (List.replicate n (none : Option Int)) (0 : Int) (some 0) = .ok _ from setL_nat (k := 0) (by simp; omega)), Res.ok_bind, e, ef]; rfl
theorem told_is (hn : n ≤ 100) (h1 : 1 ≤ n) (C : Recs s n n R) : ∃ W, N.told_years (n : Int) R = .ok (yrs s n, W) := by
  have lb := lim_big
  have rp : repL [(none : Option Int)] (n : Int) = .ok (List.replicate n none) := by
    unfold repL
    rw [if_pos ⟨by omega, by omega, by simp; omega⟩]
    simp
  have hw : (rangeL 0 (n : Int)).map (fun _ => ([] : List (Int × Int))) = List.replicate n [] := by
    rw [List.map_const', rangeL_length]
    congr 1
  obtain ⟨σ, e, q⟩ := foldR_invN (f := N.told_years_l3 R) (I := fun k σ => if k = 0 then σ = (List.replicate n none, List.replicate n []) else σ.1 = (yrs s n).map some) (xs := rangeL 0 (n : Int)) (s := (List.replicate n none, List.replicate n [])) (n := 0) (fun k x hk σ q => by
    have hkl := (List.getElem?_eq_some_iff.mp hk).1
    rw [rangeL_length] at hkl
    rw [rangeL_get hkl] at hk
    have hx : (k : Int) = x := by
      have : (0 : Int) + (k : Int) = x := Option.some.inj hk
      omega
    subst hx
    rw [Nat.zero_add] at q ⊢
    have nz : ¬ (k + 1 = 0) := by omega
    simp only [if_neg nz]
    by_cases z : k = 0
    · subst z
      rw [if_pos rfl] at q
      subst q
      obtain ⟨W, w1⟩ := first_wood hn h1 C (ways := List.replicate n []) rfl
      exact ⟨_, w1, rfl⟩
    · rw [if_neg z] at q
      refine ⟨σ, ?_, q⟩
      obtain ⟨f, W⟩ := σ
      dsimp only at q
      subst q
      have : ((yrs s n).map some)[k]? = some (some (s k - s 0)) := by
        unfold yrs
        rw [List.getElem?_map, List.getElem?_map, List.getElem?_range (by omega)]; rfl
      unfold N.told_years_l3
      dsimp only
      rw [getL_nat this, Res.ok_bind, decide_eq_false (by simp), if_neg (by decide)]; rfl) (by rw [if_pos rfl])
  rw [Nat.zero_add, rangeL_length, if_neg (by omega)] at q
  obtain ⟨f, W⟩ := σ
  dsimp only at q
  subst q
  refine ⟨W, ?_⟩
  unfold N.told_years
  rw [rp, Res.ok_bind, rangeR_is (by decide) (by decide) (by omega) (by omega), Res.ok_bind, lcR_map (g := fun _ => ([] : List (Int × Int))) fun _ _ => rfl, hw, Res.ok_bind, Res.ok_bind, e, Res.ok_bind, unOs_map, Res.ok_bind]
end
end Law
end
section
set_option Elab.async false
set_option linter.all false
set_option maxRecDepth 100000
set_option maxHeartbeats 1000000
noncomputable section
namespace Law
open Vs.Enc (toD)
open PySem PySem.Spec PyProof.Rows Vs
section
variable {s : Nat → Int} {n : Nat} {R : List (T3 Int Int Int)}
theorem abs_le {x : Int} (h1 : -1000 ≤ x) (h2 : x ≤ 1000) : absI x ≤ 1000 := by unfold absI; split <;> omega
theorem recs_ok (hn : n ≤ 10) (h1 : 1 ≤ n) (C : Recs s n n R) (hs : ∀ i, i < n → 0 ≤ s i ∧ s i ≤ 100) : N.check_records (n : Int) R = .ok () := by
  have cl := C.len
  unfold N.check_records
  rw [decide_eq_true (show (1 : Int) ≤ (n : Int) by omega), if_pos rfl, Res.ok_bind, decide_eq_true (show (n : Int) ≤ 10 by omega), Bool.not_true, if_neg Bool.false_ne_true, decide_eq_false (show ¬ (30 : Int) < lenL R by unfold lenL; omega), if_neg Bool.false_ne_true, foldR_pass]
  · rfl
  · intro p hp
    obtain ⟨k, _, e⟩ := mem_enumL hp
    obtain ⟨i, j, hi, hj, ne, eq⟩ := C.ok p.2 (List.mem_of_getElem? e)
    obtain ⟨i1, i2⟩ := hs i hi
    obtain ⟨j1, j2⟩ := hs j hj
    unfold N.check_records_l1
    rw [eq]
    dsimp only
    rw [decide_eq_true (show (0 : Int) ≤ (i : Int) by omega), if_pos rfl, Res.ok_bind, decide_eq_true (show (i : Int) < (n : Int) by omega), Bool.not_true, if_neg Bool.false_ne_true, decide_eq_true (show (0 : Int) ≤ (j : Int) by omega), if_pos rfl, Res.ok_bind, decide_eq_true (show (j : Int) < (n : Int) by omega), Bool.not_true, if_neg Bool.false_ne_true, decide_eq_false (show ¬ (i : Int) = (j : Int) by omega), if_neg Bool.false_ne_true, decide_eq_false (show ¬ (1000 : Int) < absI (s j - s i) by have := abs_le (x := s j - s i) (by omega) (by omega); omega)]
    rfl
/-- numbers that are the starts, all put by the same -/
theorem unlike_told (C : Recs s n n R) {told : List Int} {c : Int} (h : ∀ i, i < n → told[i]? = some (s i - c)) : N.unlike_record R told = .ok none := unlike_none fun q hq => by
  obtain ⟨i, j, hi, hj, ne, eq⟩ := C.ok q hq
  refine ⟨s i - c, s j - c, ?_, ?_, ?_⟩
  · rw [eq]; exact getL_nat (h j hj)
  · rw [eq]; exact getL_nat (h i hi)
  · rw [eq]; dsimp only; omega
theorem yrs_at {i : Nat} (h : i < n) : (yrs s n)[i]? = some (s i - s 0) := by
  unfold yrs
  rw [List.getElem?_map, List.getElem?_range h]; rfl
theorem years_is (hn : n ≤ 10) (h1 : 1 ≤ n) (C : Recs s n n R) (hs : ∀ i, i < n → 0 ≤ s i ∧ s i ≤ 100) : N.years (n : Int) R = .ok (some (yrs s n)) := by
  obtain ⟨W, e⟩ := told_is (by omega) h1 C
  unfold N.years
  rw [recs_ok hn h1 C hs, Res.ok_bind, e, Res.ok_bind]
  dsimp only
  rw [unlike_told C fun i hi => yrs_at hi]; rfl
theorem ring_is (hn : n ≤ 10) (h1 : 1 ≤ n) (C : Recs s n n R) (hs : ∀ i, i < n → 0 ≤ s i ∧ s i ≤ 100) : N.ring (n : Int) R = .ok none := by
  obtain ⟨W, e⟩ := told_is (by omega) h1 C
  unfold N.ring
  rw [recs_ok hn h1 C hs, Res.ok_bind, e, Res.ok_bind]
  dsimp only
  rw [unlike_told C fun i hi => yrs_at hi]; rfl
theorem fit_is (hn : n ≤ 10) (h1 : 1 ≤ n) (C : Recs s n n R) (hs : ∀ i, i < n → 0 ≤ s i ∧ s i ≤ 100) {starts : List Int} (hl : starts.length = n) (h : ∀ i, i < n → starts[i]? = some (s i)) : N.do_fit (n : Int) R starts = .ok true := by
  unfold N.do_fit
  rw [recs_ok hn h1 C hs, Res.ok_bind, decide_eq_true (show lenL starts = (n : Int) by unfold lenL; omega), if_pos rfl, unlike_told C (c := 0) fun i hi => by rw [h i hi, Int.sub_zero]]; rfl
end
end Law
end
section
set_option Elab.async false
set_option linter.all false
set_option maxRecDepth 100000
set_option maxHeartbeats 1000000
noncomputable section
namespace Law
open Vs.Enc (toD)
open PySem PySem.Spec PyProof.Rows Vs
theorem flat_one {α β : Type} (f : α → β) : ∀ xs : List α, xs.flatMap (fun x => [f x]) = xs.map f
  | [] => rfl
  | x :: xs => by rw [List.flatMap_cons, flat_one f xs]; rfl
theorem sum_same {w : Int} : ∀ {xs : List Int}, (∀ x ∈ xs, x = w) → sumI xs = (xs.length : Int) * w
  | [], _ => by unfold sumI; simp
  | x :: xs, h => by
    have h1 := h x List.mem_cons_self
    have h2 := sum_same (xs := xs) fun y hy => h y (List.mem_cons_of_mem _ hy)
    unfold sumI at *
    rw [List.sum_cons, h2, h1, List.length_cons, Int.natCast_add, Int.add_mul]
    omega
theorem fraction_is {w : Int} {n : Nat} (h0 : 1 ≤ n) (hn : n ≤ 1000) : N.fraction ((n : Int) * w) (n : Int) = .ok (w, 1) := by
  have g : gcdI ((n : Int) * w) (n : Int) = (n : Int) := by
    unfold gcdI
    rw [Int.natAbs_mul, Int.natAbs_natCast, Nat.gcd_mul_right_left]
  unfold N.fraction
  rw [decide_eq_false (by omega), if_neg Bool.false_ne_true, Res.ok_bind]
  dsimp only
  rw [g, fdivI_ok (by omega) (by omega), Res.ok_bind, fdivI_ok (by omega) (by omega), Res.ok_bind, Int.mul_fdiv_cancel_left _ (by omega), Int.fdiv_self (by omega)]
/-- rows cut at s -/
structure Rws (m : List Int) (s : Nat → Nat) (n : Nat) (rows : List (List Int)) : Prop where
  len : rows.length = n
  at_ : ∀ i, i < n → ∃ r, rows[i]? = some r ∧ Sl m (s i) r
/-- the place is beside a row -/
def cov (s : Nat → Nat) (rows : List (List Int)) (y : Int) : Bool := ((List.range rows.length).any fun i => decide (0 ≤ y - s i) && decide (y - s i < lenL (rows.getD i [])))
def entry (m : List Int) (s : Nat → Nat) (rows : List (List Int)) (y : Int) : Ent := if cov s rows y then some (m.getD y.toNat 0, 1) else none
section
variable {m : List Int} {s : Nat → Nat} {n : Nat} {rows : List (List Int)}
theorem cov_iff (K : Rws m s n rows) {y : Int} : cov s rows y = true ↔ ∃ i r, i < n ∧ rows[i]? = some r ∧ 0 ≤ y - s i ∧ y - s i < lenL r := by
  unfold cov
  rw [List.any_eq_true]
  constructor
  · rintro ⟨i, hi, h⟩
    have hi := List.mem_range.mp hi
    obtain ⟨h1, h2⟩ := Bool.and_eq_true_iff.mp h
    have e := List.getElem?_eq_getElem hi
    refine ⟨i, rows[i], by rw [← K.len]; exact hi, e, of_decide_eq_true h1, ?_⟩
    have h2 := of_decide_eq_true h2
    rw [List.getD_eq_getElem?_getD, e] at h2
    exact h2
  · rintro ⟨i, r, hi, e, h1, h2⟩
    refine ⟨i, List.mem_range.mpr (by rw [K.len]; exact hi), ?_⟩
    rw [List.getD_eq_getElem?_getD, e, decide_eq_true h1, Option.getD_some, decide_eq_true h2]; rfl
theorem zip_mem {told : List Int} {c : Int} (K : Rws m s n rows) (hl : told.length = n) (ht : ∀ i, i < n → told[i]? = some ((s i : Int) - c)) {p : Int × List Int} (hp : p ∈ told.zip rows) : ∃ i, i < n ∧ p.1 = (s i : Int) - c ∧ rows[i]? = some p.2 ∧ Sl m (s i) p.2 := by
  obtain ⟨i, e⟩ := List.mem_iff_getElem?.mp hp
  obtain ⟨e1, e2⟩ := List.getElem?_zip_eq_some.mp e
  have hi := (List.getElem?_eq_some_iff.mp e1).1
  obtain ⟨r, q1, q2⟩ := K.at_ i (by omega)
  rw [ht i (by omega)] at e1
  rw [q1] at e2
  have e2 := Option.some.inj e2
  exact ⟨i, by omega, (Option.some.inj e1).symm, by rw [q1, e2], by rw [← e2]; exact q2⟩
theorem zip_at {told : List Int} {c : Int} (ht : ∀ i, i < n → told[i]? = some ((s i : Int) - c)) {i : Nat} {r : List Int} (hi : i < n) (e : rows[i]? = some r) : ((s i : Int) - c, r) ∈ told.zip rows := List.mem_iff_getElem?.mpr ⟨i, List.getElem?_zip_eq_some.mpr ⟨ht i hi, e⟩⟩
/-- one year of the mean -/
theorem mean_step (hn : n ≤ 10) {told : List Int} {c : Int} (K : Rws m s n rows) (hl : told.length = n) (ht : ∀ i, i < n → told[i]? = some ((s i : Int) - c)) {y : Int} {σ : List Ent} (hσ : σ.length ≤ 4000) : N.mean_row_l3 rows told σ (y - c) = .ok (σ ++ [entry m s rows y]) := by
  have lb := lim_big
  have cond : ∀ p ∈ told.zip rows, ((if decide ((0 : Int) ≤ (y - c - p.1)) then (.ok (decide ((y - c - p.1) < (lenL p.2)))) else .ok false) >>= fun τ18 => Res.ok τ18) = Res.ok (decide (0 ≤ y - c - p.1) && decide (y - c - p.1 < lenL p.2)) := fun p _ => by
    cases decide (0 ≤ y - c - p.1) <;> rfl
  have val_ : ∀ p ∈ told.zip rows, (decide (0 ≤ y - c - p.1) && decide (y - c - p.1 < lenL p.2)) = true → (getL p.2 (y - c - p.1) >>= fun τ19 => Res.ok τ19) = Res.ok (m.getD y.toNat 0) := fun p hp hb => by
    obtain ⟨i, hi, e1, e2, S⟩ := zip_mem K hl ht hp
    obtain ⟨h1, h2⟩ := Bool.and_eq_true_iff.mp hb
    have h1 := of_decide_eq_true h1
    have h2 := of_decide_eq_true h2
    unfold lenL at h2
    have hk : (y - c - p.1).toNat < p.2.length := by omega
    have := S.at_ _ hk
    have fit := S.fit
    rw [show s i + (y - c - p.1).toNat = y.toNat by omega] at this
    rw [getL_int h1 (x := m.getD y.toNat 0) (by rw [this, List.getD_eq_getElem?_getD, List.getElem?_eq_getElem (show y.toNat < m.length by omega)]; rfl)]
    rfl
  unfold N.mean_row_l3
  rw [lcR_pure cond val_, Res.ok_bind]
  have same : ∀ x ∈ ((told.zip rows).filter fun p => decide (0 ≤ y - c - p.1) && decide (y - c - p.1 < lenL p.2)).map (fun _ => m.getD y.toNat 0), x = m.getD y.toNat 0 := fun x hx => by
    obtain ⟨_, _, e⟩ := List.mem_map.mp hx
    exact e.symm
  have le : (((told.zip rows).filter fun p => decide (0 ≤ y - c - p.1) && decide (y - c - p.1 < lenL p.2)).map (fun _ => m.getD y.toNat 0)).length ≤ 10 := by
    rw [List.length_map]
    have := List.length_filter_le (fun p : Int × List Int => decide (0 ≤ y - c - p.1) && decide (y - c - p.1 < lenL p.2)) (told.zip rows)
    rw [List.length_zip] at this
    omega
  unfold entry
  by_cases h : cov s rows y = true
  · obtain ⟨i, r, hi, e, h1, h2⟩ := (cov_iff K).mp h
    have mem : m.getD y.toNat 0 ∈ ((told.zip rows).filter fun p => decide (0 ≤ y - c - p.1) && decide (y - c - p.1 < lenL p.2)).map (fun _ => m.getD y.toNat 0) := List.mem_map.mpr ⟨_, List.mem_filter.mpr ⟨zip_at (c := c) ht hi e, by dsimp only; rw [show y - c - ((s i : Int) - c) = y - s i by omega, decide_eq_true h1, decide_eq_true h2]; rfl⟩, rfl⟩
    have pos := List.length_pos_of_mem mem
    generalize ((told.zip rows).filter fun p => decide (0 ≤ y - c - p.1) && decide (y - c - p.1 < lenL p.2)).map (fun _ => m.getD y.toNat 0) = ws at same le mem pos ⊢
    have hws : lenL ws = (ws.length : Int) := rfl
    rw [decide_eq_true (show (0 : Int) < lenL ws by omega), if_pos rfl, sum_same same, hws, fraction_is (by omega) (by omega), Res.ok_bind, Res.ok_bind, pushL_is (by omega), Res.ok_bind, if_pos h]
  · have emp : ((told.zip rows).filter fun p => decide (0 ≤ y - c - p.1) && decide (y - c - p.1 < lenL p.2)) = [] := List.filter_eq_nil_iff.mpr fun p hp hb => by
      obtain ⟨i, hi, e1, e2, S⟩ := zip_mem K hl ht hp
      obtain ⟨h1, h2⟩ := Bool.and_eq_true_iff.mp hb
      have h1 := of_decide_eq_true h1
      have h2 := of_decide_eq_true h2
      exact h ((cov_iff K).mpr ⟨i, p.2, hi, e2, by omega, by omega⟩)
    rw [emp, if_neg h]
    rw [List.map_nil, decide_eq_false (show ¬ (0 : Int) < lenL ([] : List Int) by decide), if_neg Bool.false_ne_true, Res.ok_bind, pushL_is (by omega), Res.ok_bind]
/-- the least start and the last end -/
structure Ends (s : Nat → Nat) (n : Nat) (rows : List (List Int)) (lo hi : Int) : Prop where
  lo1 : ∃ i, i < n ∧ lo = s i
  lo2 : ∀ i, i < n → lo ≤ s i
  hi1 : ∃ i r, i < n ∧ rows[i]? = some r ∧ hi = s i + lenL r
  hi2 : ∀ i r, i < n → rows[i]? = some r → s i + lenL r ≤ hi
theorem minL_has {xs : List Int} (h : xs ≠ []) : ∃ v, minL xs = .ok v := by
  cases xs with
  | nil => exact absurd rfl h
  | cons x xs => exact ⟨_, rfl⟩
theorem maxL_has {xs : List Int} (h : xs ≠ []) : ∃ v, maxL xs = .ok v := by
  cases xs with
  | nil => exact absurd rfl h
  | cons x xs => exact ⟨_, rfl⟩
theorem min_told {told : List Int} {c : Int} (h1 : 1 ≤ n) (hl : told.length = n) (ht : ∀ i, i < n → told[i]? = some ((s i : Int) - c)) : ∃ v, minL told = .ok (v - c) ∧ (∃ i, i < n ∧ v = s i) ∧ ∀ i, i < n → v ≤ s i := by
  obtain ⟨v, e⟩ := minL_has (xs := told) fun z => by rw [z] at hl; simp at hl; omega
  obtain ⟨q1, q2⟩ := minL_spec e
  refine ⟨v + c, by rw [e, show v + c - c = v by omega], ?_, fun i hi => ?_⟩
  · obtain ⟨i, e⟩ := List.mem_iff_getElem?.mp q1
    have hi := (List.getElem?_eq_some_iff.mp e).1
    rw [ht i (by omega)] at e
    have e := Option.some.inj e
    exact ⟨i, by omega, by omega⟩
  · have := q2 _ (List.mem_of_getElem? (ht i hi))
    omega
theorem max_told {told : List Int} {c : Int} (h1 : 1 ≤ n) (K : Rws m s n rows) (hl : told.length = n) (ht : ∀ i, i < n → told[i]? = some ((s i : Int) - c)) : ∃ v, maxL ((told.zip rows).map fun p => p.1 + lenL p.2) = .ok (v - c) ∧ (∃ i r, i < n ∧ rows[i]? = some r ∧ v = s i + lenL r) ∧ ∀ i r, i < n → rows[i]? = some r → s i + lenL r ≤ v := by
  have kl := K.len
  obtain ⟨v, e⟩ := maxL_has (xs := (told.zip rows).map fun p => p.1 + lenL p.2) fun z => by
    have := congrArg List.length z
    rw [List.length_map, List.length_zip, List.length_nil] at this
    omega
  obtain ⟨q1, q2⟩ := maxL_spec e
  refine ⟨v + c, by rw [e, show v + c - c = v by omega], ?_, fun i r hi hr => ?_⟩
  · obtain ⟨p, hp, rfl⟩ := List.mem_map.mp q1
    obtain ⟨i, hi, e1, e2, _⟩ := zip_mem K hl ht hp
    exact ⟨i, p.2, hi, e2, by omega⟩
  · have := q2 _ (List.mem_map.mpr ⟨_, zip_at (c := c) ht hi hr, rfl⟩)
    dsimp only at this
    omega
theorem Ends.uniq {lo hi lo' hi' : Int} (E : Ends s n rows lo hi) (E' : Ends s n rows lo' hi') : lo = lo' ∧ hi = hi' := by
  obtain ⟨i, hi1, e1⟩ := E.lo1
  obtain ⟨i', hi1', e1'⟩ := E'.lo1
  have a1 := E.lo2 i' hi1'
  have a2 := E'.lo2 i hi1
  obtain ⟨j, r, hj, er, ej⟩ := E.hi1
  obtain ⟨j', r', hj', er', ej'⟩ := E'.hi1
  have b1 := E.hi2 j' r' hj' er'
  have b2 := E'.hi2 j r hj er
  omega
theorem rangeL_put (lo hi c : Int) : rangeL (lo - c) (hi - c) = (rangeL lo hi).map fun y => y - c := by
  unfold rangeL
  rw [List.map_map, show hi - c - (lo - c) = hi - lo by omega]
  apply List.map_congr_left
  intro k _
  show lo - c + (k : Int) = lo + (k : Int) - c
  omega
theorem foldR_map' {σ α β : Type} {f : σ → β → Res σ} {g : α → β} : ∀ {xs : List α} {s : σ}, foldR f (xs.map g) s = foldR (fun s x => f s (g x)) xs s
  | [], _ => rfl
  | x :: xs, s => by
    show (f s (g x) >>= fun s' => foldR f (xs.map g) s') = (f s (g x) >>= fun s' => foldR _ xs s')
    cases f s (g x) with
    | ok t => exact foldR_map' (xs := xs)
    | exc => rfl
    | stuck => rfl
theorem mean_is (g : GR m) (hn : n ≤ 10) (h1 : 1 ≤ n) (K : Rws m s n rows) {told : List Int} {c : Int} (hc : 0 ≤ c ∧ c ≤ 100) (hl : told.length = n) (ht : ∀ i, i < n → told[i]? = some ((s i : Int) - c)) {lo hi : Int} (E : Ends s n rows lo hi) : N.mean_row rows told = .ok ((rangeL lo hi).map (entry m s rows)) := by
  have lb := lim_big
  have kl := K.len
  have m40 := g.n40
  have sb : ∀ i, i < n → s i ≤ 40 := fun i hi => by
    obtain ⟨r, _, S⟩ := K.at_ i hi
    have := S.fit
    omega
  obtain ⟨v, a1, a2, a3⟩ := min_told (c := c) h1 hl ht
  obtain ⟨u, b1, b2, b3⟩ := max_told (c := c) h1 K hl ht
  obtain ⟨rfl, rfl⟩ := E.uniq ⟨a2, a3, b2, b3⟩
  obtain ⟨i0, hi0, e0⟩ := a2
  have := sb i0 hi0
  obtain ⟨j0, r0, hj0, er0, ej0⟩ := b2
  obtain ⟨r0', er0', S0⟩ := K.at_ j0 hj0
  rw [er0] at er0'
  cases er0'
  have f0 := S0.fit
  unfold lenL at ej0
  unfold N.mean_row
  rw [decide_eq_true (show (1 : Int) ≤ lenL rows by unfold lenL; omega), if_pos rfl, Res.ok_bind, decide_eq_true (show lenL rows ≤ 10 by unfold lenL; omega), Bool.not_true, if_neg Bool.false_ne_true, foldR_pass fun p hp => ?_, Res.ok_bind, decide_eq_true (show lenL told = lenL rows by unfold lenL; omega), Bool.not_true, if_neg Bool.false_ne_true, foldR_pass fun p hp => ?_, Res.ok_bind]
  · dsimp only
    rw [a1, Res.ok_bind, lcR_map (g := fun p : Int × List Int => p.1 + lenL p.2) fun _ _ => rfl, Res.ok_bind, b1, Res.ok_bind, rangeR_is (by omega) (by omega) (by omega) (by omega), Res.ok_bind, rangeL_put, foldR_map', foldR_flat (g := fun y => [entry m s rows y]) (B := 4000) (s := []) (fun y _ σ hσ => mean_step hn K hl ht (by simp at hσ; omega)) ?_, Res.ok_bind, List.nil_append]
    · rw [flat_one]
    · have tot := flatMap_len (g := fun y => [entry m s rows y]) (n := 1) (xs := rangeL lo hi) fun x _ => by simp
      rw [rangeL_length] at tot
      rw [List.length_nil]
      omega
  · obtain ⟨k, _, e⟩ := mem_enumL hp
    have hk := (List.getElem?_eq_some_iff.mp e).1
    rw [ht k (by omega)] at e
    have e := Option.some.inj e
    have := sb k (by omega)
    unfold N.mean_row_l2
    rw [decide_eq_false (show ¬ (1000 : Int) < absI p.2 by have := abs_le (x := p.2) (by omega) (by omega); omega)]; rfl
  · obtain ⟨k, _, e⟩ := mem_enumL hp
    have hk := (List.getElem?_eq_some_iff.mp e).1
    obtain ⟨r, e2, S⟩ := K.at_ k (by omega)
    rw [e] at e2
    unfold N.mean_row_l1
    rw [Option.some.inj e2, is_row_ok (S.gr g)]; rfl
end
end Law
end
section
set_option Elab.async false
set_option linter.all false
set_option maxRecDepth 100000
set_option maxHeartbeats 1000000
noncomputable section
namespace Law
open Vs.Enc (toD)
open PySem PySem.Spec PyProof.Rows Vs
section
variable {m : List Int} {s : Nat → Nat} {n : Nat} {rows : List (List Int)}
theorem l4_ok (hn : n ≤ 10) (K : Rws m s n rows) {starts : List Int} (hs : ∀ i, i < n → starts[i]? = some (s i : Int)) {lo hi t : Int} (h0 : 0 ≤ lo) (hm : hi ≤ lenL m) (t0 : 0 ≤ t) (t1 : lo + t < hi) :
    N.law_l4 m (rows, starts) ((rangeL lo hi).map (entry m s rows)) lo () t = .ok (.nx ()) := by
  have kl := K.len
  unfold lenL at hm
  have e1 : getL ((rangeL lo hi).map (entry m s rows)) t = .ok (entry m s rows (lo + t)) := by
    refine getL_int t0 ?_
    rw [List.getElem?_map, rangeL_get (by omega)]
    rw [show lo + (t.toNat : Int) = lo + t by omega]; rfl
  have e2 : getL m (lo + t) = .ok (m.getD (lo + t).toNat 0) := by
    refine getL_int (by omega) ?_
    rw [List.getD_eq_getElem?_getD, List.getElem?_eq_getElem (by omega)]; rfl
  have fl : ∀ x ∈ rangeL 0 (lenL rows), ((getL starts x) >>= fun τ78 => (if decide ((0 : Int) ≤ ((lo + t) - τ78)) then ((getL rows x) >>= fun τ79 => .ok (decide (((lo + t) - τ78) < (lenL τ79)))) else .ok false) >>= fun τ80 => Res.ok τ80) = Res.ok (decide (0 ≤ lo + t - s x.toNat) && decide (lo + t - s x.toNat < lenL (rows.getD x.toNat []))) := fun x hx => by
    have hx := mem_rangeL.mp hx
    unfold lenL at hx
    obtain ⟨k, rfl⟩ : ∃ k : Nat, x = (k : Int) := ⟨x.toNat, by omega⟩
    have er := List.getElem?_eq_getElem (l := rows) (i := k) (by omega)
    rw [getL_nat (hs k (by omega)), Res.ok_bind, getL_nat er, Int.toNat_natCast, List.getD_eq_getElem?_getD, er]
    cases decide ((0 : Int) ≤ (lo + t) - (s k : Int)) <;> rfl
  unfold N.law_l4
  dsimp only
  rw [rangeR_is (by decide) (by decide) (by unfold lenL; omega) (by unfold lenL; omega), Res.ok_bind, lcR_filter fl, Res.ok_bind, e1, Res.ok_bind, e2, Res.ok_bind]
  by_cases h : cov s rows (lo + t) = true
  · obtain ⟨i, r, hi', er, h1, h2⟩ := (cov_iff K).mp h
    have mem : (i : Int) ∈ (rangeL 0 (lenL rows)).filter fun x => decide (0 ≤ lo + t - s x.toNat) && decide (lo + t - s x.toNat < lenL (rows.getD x.toNat [])) := List.mem_filter.mpr ⟨mem_rangeL.mpr ⟨by omega, by unfold lenL; omega⟩, by
      rw [Int.toNat_natCast, List.getD_eq_getElem?_getD, er, decide_eq_true h1, Option.getD_some, decide_eq_true h2]; rfl⟩
    rw [decide_eq_false (fun z => by rw [z] at mem; simp at mem)]
    unfold entry
    rw [if_pos h]
    show (Res.ok _ >>= _) = _
    rw [Res.ok_bind, decide_eq_true rfl]; rfl
  · have emp : ((rangeL 0 (lenL rows)).filter fun x => decide (0 ≤ lo + t - s x.toNat) && decide (lo + t - s x.toNat < lenL (rows.getD x.toNat []))) = [] := List.filter_eq_nil_iff.mpr fun x hx hb => by
      have hx := mem_rangeL.mp hx
      unfold lenL at hx
      obtain ⟨h1, h2⟩ := Bool.and_eq_true_iff.mp hb
      have er := List.getElem?_eq_getElem (l := rows) (i := x.toNat) (by omega)
      have h2 := of_decide_eq_true h2
      rw [List.getD_eq_getElem?_getD, er] at h2
      exact h ((cov_iff K).mpr ⟨x.toNat, _, by omega, er, of_decide_eq_true h1, h2⟩)
    rw [emp, decide_eq_true rfl]
    unfold entry
    rw [if_neg h]
    show (Res.ok _ >>= _) = _
    rw [Res.ok_bind, decide_eq_true rfl]; rfl
theorem ends_has (h1 : 1 ≤ n) (K : Rws m s n rows) : ∃ lo hi, Ends s n rows lo hi ∧ 0 ≤ lo ∧ hi ≤ lenL m := by
  have ht : ∀ i, i < n → ((List.range n).map fun i => (s i : Int))[i]? = some ((s i : Int) - 0) := fun i hi => by
    rw [List.getElem?_map, List.getElem?_range hi, Int.sub_zero]; rfl
  obtain ⟨v, a1, a2, a3⟩ := min_told (c := 0) h1 (by simp) ht
  obtain ⟨u, b1, b2, b3⟩ := max_told (c := 0) h1 K (by simp) ht
  refine ⟨v, u, ⟨a2, a3, b2, b3⟩, ?_, ?_⟩
  · obtain ⟨i, _, e⟩ := a2; omega
  · obtain ⟨i, r, hi, er, e⟩ := b2
    obtain ⟨r', er', S⟩ := K.at_ i hi
    rw [er] at er'
    cases er'
    have := S.fit
    unfold lenL at *
    omega
end
theorem law_ok {ns : List Int} (hn : ns.length ≤ 63) : N.law ⟨ns⟩ = .ok true := by
  obtain ⟨d, e0, _, _⟩ := draws_ok hn
  obtain ⟨z, e1, z0, z1⟩ := mix_ok (d := d) 0 (many := 2) (by decide)
  obtain ⟨w, e2, w0, w1⟩ : ∃ w : Int, getL [(9 : Int), (400 : Int)] z = .ok w ∧ 0 < w ∧ w ≤ 999 := by
    rcases (show z = 0 ∨ z = 1 by omega) with rfl | rfl
    · exact ⟨9, rfl, by decide, by decide⟩
    · exact ⟨400, rfl, by decide, by decide⟩
  obtain ⟨m, e3, g, m6⟩ := master_made d w0 w1
  obtain ⟨q, e4, q0, q1⟩ := mix_ok (d := d) 1 (many := 6) (by decide)
  obtain ⟨n, hq⟩ : ∃ n : Nat, (1 : Int) + q = (n : Int) := ⟨(1 + q).toNat, by omega⟩
  obtain ⟨σ, e5, C⟩ := foldR_invN (f := N.law_l1 d m) (I := fun k σ => Cut m k σ) (xs := rangeL 0 (n : Int)) (s := ([], [])) (n := 0) (fun k x hk σ C => by
    have hkl := (List.getElem?_eq_some_iff.mp hk).1
    rw [rangeL_length] at hkl
    rw [Nat.zero_add] at C ⊢
    exact cut_step m6 (by omega) C x) ⟨rfl, rfl, fun i hi => absurd hi (Nat.not_lt_zero _)⟩
  rw [Nat.zero_add, rangeL_length, show ((n : Int) - 0).toNat = n by omega] at C
  obtain ⟨rows, starts⟩ := σ
  obtain ⟨c1, c2, c3⟩ := C
  dsimp only at c1 c2 c3
  let s : Nat → Nat := fun i => (starts.getD i 0).toNat
  have hs0 : ∀ i, i < n → ∃ r, rows[i]? = some r ∧ starts[i]? = some (s i : Int) ∧ Sl m (s i) r := fun i hi => by
    obtain ⟨r, t, q1, q2, q3⟩ := c3 i hi
    have : s i = t := by
      show (starts.getD i 0).toNat = t
      rw [List.getD_eq_getElem?_getD, q2]; rfl
    exact ⟨r, q1, by rw [q2, this], by rw [this]; exact q3⟩
  have hs : ∀ i, i < n → starts[i]? = some (s i : Int) := fun i hi => by
    obtain ⟨r, q1, q2, q3⟩ := hs0 i hi
    exact q2
  have K : Rws m s n rows := ⟨c1, fun i hi => by
    obtain ⟨r, q1, q2, q3⟩ := hs0 i hi
    exact ⟨r, q1, q3⟩⟩
  have n1 : 1 ≤ n := by omega
  have n6 : n ≤ 6 := by omega
  have lr : lenL rows = (n : Int) := by unfold lenL; omega
  have sb : ∀ i, i < n → (0 : Int) ≤ (s i : Int) ∧ (s i : Int) ≤ 100 := fun i hi => by
    obtain ⟨r, q1, q2, q3⟩ := hs0 i hi
    have := q3.fit
    have := g.n40
    omega
  obtain ⟨R, e6, CR⟩ := foldR_invN (f := N.law_l2 d (rows, starts)) (I := fun k R => Recs (fun i => (s i : Int)) n k R) (xs := rangeL 1 (n : Int)) (s := []) (n := 1) (fun k x hk R C => by
    have hkl := (List.getElem?_eq_some_iff.mp hk).1
    rw [rangeL_length] at hkl
    rw [rangeL_get hkl] at hk
    have hx : ((1 + k : Nat) : Int) = x := by
      have : (1 : Int) + (k : Int) = x := Option.some.inj hk
      omega
    subst hx
    exact recs_step hs (by omega) (by omega) (by omega) C) ⟨rfl, by simp, fun b b1 bk => by omega⟩
  rw [rangeL_length, show 1 + ((n : Int) - 1).toNat = n by omega] at CR
  have e7 : foldC (N.law_l3 m (rows, starts)) (rangeL 0 (n : Int)) () = .ok (.nx ()) := foldC_unit fun x hx => by
    have hx := mem_rangeL.mp hx
    obtain ⟨k, rfl⟩ : ∃ k : Nat, x = (k : Int) := ⟨x.toNat, by omega⟩
    obtain ⟨r, q1, q2, q3⟩ := hs0 k (by omega)
    exact l3_ok g q1 q2 q3
  have y0 : getL starts (0 : Int) = .ok (s 0 : Int) := getL_nat (k := 0) (hs 0 (by omega))
  have ey : starts.map (fun x => x - (s 0 : Int)) = yrs (fun i => (s i : Int)) n := by
    apply List.ext_getElem?
    intro i
    by_cases hi : i < n
    · rw [yrs_at hi, List.getElem?_map, hs i hi]; rfl
    · rw [List.getElem?_eq_none (by rw [List.length_map]; omega), List.getElem?_eq_none (by unfold yrs; simp; omega)]
  obtain ⟨lo, hi, E, lo0, him⟩ := ends_has n1 K
  have em := mean_is g (by omega) n1 K (told := starts) (c := 0) (by omega) c2 (fun i hi => by rw [hs i hi, Int.sub_zero]) E
  have em2 := mean_is g (by omega) n1 K (told := yrs (fun i => (s i : Int)) n) (c := (s 0 : Int)) (sb 0 (by omega)) (by unfold yrs; simp) (fun i hi => yrs_at hi) E
  obtain ⟨v, a1, a2, a3⟩ := min_told (s := s) (told := starts) (c := 0) n1 c2 (fun i hi => by rw [hs i hi, Int.sub_zero])
  obtain ⟨u, b1, b2, b3⟩ := max_told (told := starts) (c := 0) n1 K c2 (fun i hi => by rw [hs i hi, Int.sub_zero])
  obtain ⟨rfl, rfl⟩ := E.uniq ⟨a2, a3, b2, b3⟩
  rw [Int.sub_zero] at a1
  have hm40 := g.n40
  have hlo : lo ≤ 100 := by
    obtain ⟨i, hi', e⟩ := a2
    have := sb i hi'
    omega
  have hle : lo ≤ hi := by
    obtain ⟨i, hi', e⟩ := a2
    obtain ⟨r, q1, q2, q3⟩ := hs0 i hi'
    have := b3 i r hi' q1
    unfold lenL at this
    omega
  have lmean : lenL ((rangeL lo hi).map (entry m s rows)) = hi - lo := by
    unfold lenL
    rw [List.length_map, rangeL_length]; omega
  have e8 : foldC (N.law_l4 m (rows, starts) ((rangeL lo hi).map (entry m s rows)) lo) (rangeL 0 (hi - lo)) () = .ok (.nx ()) := foldC_unit fun x hx => by
    have hx := mem_rangeL.mp hx
    exact l4_ok (by omega) K hs lo0 him hx.1 (by omega)
  have e9 : foldC (N.law_l6 (rows, starts)) (rangeL 0 (n : Int)) () = .ok (.nx ()) := foldC_unit fun x hx => by
    have hx := mem_rangeL.mp hx
    obtain ⟨i, rfl⟩ : ∃ k : Nat, x = (k : Int) := ⟨x.toNat, by omega⟩
    obtain ⟨ra, p1, p2, p3⟩ := hs0 i (by omega)
    unfold N.law_l6
    rw [rangeR_is (by decide) (by decide) (by omega) (by omega), Res.ok_bind, foldC_unit fun y hy => ?_]
    · rfl
    · have hy := mem_rangeL.mp hy
      obtain ⟨j, rfl⟩ : ∃ k : Nat, y = (k : Int) := ⟨y.toNat, by omega⟩
      obtain ⟨rb, r1, r2, r3⟩ := hs0 j (by omega)
      exact l5_ok g p1 r1 p2 r2 p3 r3
  unfold N.law
  rw [draws_is, e0, Res.ok_bind, mix_is, e1, Res.ok_bind, e2, Res.ok_bind, e3, Res.ok_bind]
  dsimp only
  rw [e4, Res.ok_bind, hq, rangeR_is (by decide) (by decide) (by omega) (by omega), Res.ok_bind, e5, Res.ok_bind]
  dsimp only
  rw [lr, rangeR_is (by decide) (by decide) (by omega) (by omega), Res.ok_bind, e6, Res.ok_bind, rangeR_is (by decide) (by decide) (by omega) (by omega), Res.ok_bind, e7, Res.ok_bind]
  show ((N.years (n : Int) R) >>= _) = _
  rw [years_is (by omega) n1 CR sb, Res.ok_bind, decide_eq_false (by simp), if_neg Bool.false_ne_true, ring_is (by omega) n1 CR sb, Res.ok_bind, decide_eq_true rfl, Bool.not_true, if_neg Bool.false_ne_true]
  rw [lcR_map (g := fun x : Int => x - (s 0 : Int)) fun x _ => by rw [y0]; rfl, Res.ok_bind, ey, decide_eq_true rfl, Bool.not_true, if_neg Bool.false_ne_true, fit_is (by omega) n1 CR sb c2 hs, Res.ok_bind, decide_eq_true rfl, Bool.not_true, Res.ok_bind, Res.ok_bind, Res.ok_bind, if_neg Bool.false_ne_true, em, Res.ok_bind, a1, Res.ok_bind, lmean, rangeR_is (by decide) (by decide) (by omega) (by unfold lenL at him; omega), Res.ok_bind, e8, Res.ok_bind]
  show (unO (some _) >>= _) = _
  have eu : unO (some (yrs (fun i => (s i : Int)) n)) = Res.ok (yrs (fun i => (s i : Int)) n) := rfl
  rw [eu, Res.ok_bind, em2, Res.ok_bind, decide_eq_true rfl, Bool.not_true, if_neg Bool.false_ne_true, Res.ok_bind, e9, Res.ok_bind]
  rfl
theorem holds : PySem.Challenge.rw_dugtold_k94_whole_woods_of_one_master.Holds := law_end fun ns h => law_ok h
end Law
end
theorem PySem.Challenge.cw_dugtold_k94_whole_woods_of_one_master_holds : PySem.Challenge.rw_dugtold_k94_whole_woods_of_one_master.Holds := by
  exact Law.holds
