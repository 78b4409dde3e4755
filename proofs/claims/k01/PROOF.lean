import PyProof.Rows.All
import Wide.All
import OpenK.AllK
import Wide.FinOn
import HandS.ForMost
import HandS.Exc
import HandS.Flow
import HandS.IsInst
import HandS.NamedTupSort
import HandS.OwnEq
import PyProof.InstNe
import HandS.Set
import HandS.TupSets
import KE.KeyNested
import HandS.Strs
import HandS.Style
import HandS.Iter
import HandS.Zip
import HandS.Comp
import HandS.Small
import HandS.Dict
import HandS.SetFor
import HandS.Deep
import HandS.Text
import KE.SortData
import HandS.TupAny
import PyProof.Rows.InDataRows
import PyProof.ReprRoads
import KE.KCallOwn
import HandS.FStr
import HandS.Defaults
import HandS.Ends
import HandS.HeadHook4
import HandS.Head0
import HandS.Head1
import HandS.Head2
import KE.KxText
import PySem.Challenge.RW_packbags_k01_things
section
set_option Elab.async false
set_option linter.all false
set_option maxRecDepth 100000
set_option maxHeartbeats 2000000
/-! == and != where an own class has its own ==: at the library's level. -/
namespace Pk
open PySem L2 PyProof.Rows PySem.W

section
variable {prog : Program} {w : World} {A : Around} {E : Value → Shared → Prop} {s : Shared} {K : Frag} {x C f : Addr} {ox : Obj} {od : Option Obj} {b tb : Value}
/-- the class's != is object's: it asks the own == -/
theorem tryNe {Q : Option Value → Shared → Prop} (hu : A.units + 1 < cLine) (X : K.In s.heap) (I : InstAt s.heap x ox C od) (hs : findIn K (.ref C) "__eq__" = some (some (.ref f))) (hf : isFn K (.ref f) = true)
    (hne : findIn K (.ref C) "__ne__" = some (some (.builtin "object.__ne__"))) (hob : mroIn K C (.type "object") = some true)
    (h : wpAny (model prog w) A.in1 (call (.ref f) [.ref x, b]) (fun v s' => ∃ k, v = .bool k ∧ Q (some (.bool (!k))) s') E s) : wpAny (model prog w) A (tryCompare (.ref x) "__ne__" b) Q E s := by
  have sp : Looks (model prog w) s.heap (specialOf (.ref x) "__ne__") (some (.builtin "object.__ne__")) := I.type.andThen (looks_findIn X hne)
  have iv : Looks (model prog w) s.heap (isInstance (.ref x) (.type "object")) true := I.type.andThen (looks_mroIn X hob)
  unfold tryCompare
  refine wpAny_bind (NtL.csib sp (PySem.F.slot_object_ne.bind _) ?_)
  show wpAny (model prog w) A (call (.builtin "object.__ne__") [.ref x, b]) _ E s
  refine wpAny_call (codeAny_call_builtin PySem.F.slot_object_ne.plain PySem.F.cmpEntry_ne (@check_slot _ _ _ _ "object.__ne__" "object" "__ne__" (.ref x) [b] [] _ PySem.F.cmpKind_ne PySem.F.cmpSplit_ne iv (PySem.F.cmpArgs_ne _ _) ?_))
  unfold Builtin.«object.__ne__»
  have hu' : A.in1.units < cLine := hu
  repeat (first
    | with_reducible refine wpAny_cRoomFor hu' ?_
    | (refine wpAny_bind (m := callSpecialIfBound? (.ref x) (Str.ofString "__eq__") [b])
        (ifBound_K X I hs hf (wpAny_mono h (fun r s' hr => by
          obtain ⟨k, rfl, hq⟩ := hr
          repeat (first | exact hq | exact wpAny_pure hq | exact wpAny_truthy_bool hq | (refine wpAny_bind (m := truthy (.bool _)) (wpAny_truthy_bool ?_)) | wp_step)) fun _ _ e => e)))
    | wp_step)
theorem ne_K {L : Addr} {h₀ : Heap} {m : Str → Option Value} {Q : Value → Shared → Prop} (hu : A.units + 1 < cLine) (F : Fr h₀ L s.heap m) (X₀ : K.In h₀) (I : InstAt s.heap x ox C od) (hb : Looks (model prog w) s.heap (typeOf b) tb) (hn : notFirst K C tb = true)
    (hs : findIn K (.ref C) "__eq__" = some (some (.ref f))) (hf : isFn K (.ref f) = true) (hne : findIn K (.ref C) "__ne__" = some (some (.builtin "object.__ne__"))) (hob : mroIn K C (.type "object") = some true)
    (h : wpAny (model prog w) A.in1 (call (.ref f) [.ref x, b]) (fun v s' => ∃ k, v = .bool k ∧ Q (.bool (!k)) s') E s) : wpAny (model prog w) A (richCompare .NotEq (.ref x) b) Q E s := by
  have X := X₀.keeps F.keep
  have one : wpAny (model prog w) A (tryCompare (.ref x) "__ne__" b) (fun r s' => ∃ v, r = some v ∧ Q v s') E s :=
    tryNe hu X I hs hf hne hob (wpAny_mono h (fun v s' ⟨k, e, q⟩ => ⟨k, e, _, rfl, q⟩) fun _ _ z => z)
  unfold richCompare
  simp only [oneThing_ref]
  refine wpAny_holding (wpAny_bind (wpAny_cRoomFor (Nat.lt_of_succ_lt hu) ?_))
  refine wpAny_bind (I.type.here (wpAny_bind (hb.here ?_)))
  split
  · rename_i q
    have e : subIn K tb (.ref C) = some false := by
      rcases Bool.or_eq_true_iff.mp hn with e | e
      · rw [beq_iff_eq.mp e] at q; simp at q
      · exact beq_iff_eq.mp e
    refine wpAny_bind ((looks_subIn X e).here ?_)
    simp only [Bool.false_eq_true, if_false]
    refine wpAny_bind (wpAny_mono one (fun r s' z => ?_) fun _ _ e => e)
    obtain ⟨v, rfl, hq⟩ := z
    exact wpAny_pure hq
  · refine wpAny_bind (wpAny_pure ?_)
    simp only [Bool.false_eq_true, if_false]
    refine wpAny_bind (wpAny_mono one (fun r s' z => ?_) fun _ _ e => e)
    obtain ⟨v, rfl, hq⟩ := z
    exact wpAny_pure hq
/-- a value of a built-in type that declines, then the own == -/
theorem refl_K {T ida : String} {a : Value} {op : CmpOp} {Q : Value → Shared → Prop} (hu : A.units < cLine) (X : K.In s.heap) (ha : s.TypeIs a T) (I : InstAt s.heap x ox C od) (hsub : mroIn K C (.type T) = some false) (h1 : Slot T (cmpInfo op).2.1 ida)
    (hc : ∀ Q' : Value → Shared → Prop, Q' .notImplemented s → wpAny (model prog w) A (call (.builtin ida) [a, .ref x]) Q' E s)
    (h2 : wpAny (model prog w) A (tryCompare (.ref x) (cmpInfo op).2.2 a) (fun r s' => ∃ v, r = some v ∧ Q v s') E s) : wpAny (model prog w) A (richCompare op a (.ref x)) Q E s := by
  rcases hi : cmpInfo op with ⟨sym, f, r⟩
  rw [hi] at h1 h2
  simp only [richCompare, hi, ha.oneThing_none]
  try with_reducible refine wpAny_holding ?_
  refine wpAny_bind (wpAny_cRoomFor hu ?_)
  refine wpAny_bind (wpAny_typeOf ha (wpAny_bind (I.type.here ?_)))
  rw [if_pos (show (Value.type T != Value.ref C) = true from rfl)]
  refine wpAny_bind ((looks_mroIn X hsub).here ?_)
  simp only [Bool.false_eq_true, if_false, Bool.not_false, if_true]
  refine wpAny_bind (m := tryCompare a _ (.ref x)) (wpAny_tryCompare_declines ha h1 (hc _ ⟨rfl, ?_⟩))
  refine wpAny_bind (m := tryCompare (.ref x) _ a) (wpAny_mono h2 (fun r s' z => ?_) fun _ _ e => e)
  obtain ⟨v, rfl, hq⟩ := z
  exact wpAny_pure hq
theorem tryEq {Q : Option Value → Shared → Prop} (X : K.In s.heap) (I : InstAt s.heap x ox C od) (hs : findIn K (.ref C) "__eq__" = some (some (.ref f))) (hf : isFn K (.ref f) = true)
    (h : wpAny (model prog w) A (call (.ref f) [.ref x, b]) (fun v s' => ∃ k, v = .bool k ∧ Q (some (.bool k)) s') E s) : wpAny (model prog w) A (tryCompare (.ref x) "__eq__" b) Q E s := by
  unfold tryCompare
  refine wpAny_bind (ifBound_K X I hs hf (wpAny_mono h (fun v s' hv => ?_) fun _ _ e => e))
  obtain ⟨k, rfl, hq⟩ := hv
  exact wpAny_pure hq
/-! ### who declines -/
theorem none_dec (op : CmpOp) (ho : op = .Eq ∨ op = .NotEq) : ∃ ida, Slot "NoneType" (cmpInfo op).2.1 ida ∧ ∀ Q' : Value → Shared → Prop, Q' .notImplemented s → wpAny (model prog w) A (call (.builtin ida) [.none, .ref x]) Q' E s := by
  rcases ho with rfl | rfl
  · refine ⟨_, PySem.F.slot_NoneType_eq, fun Q' h => call_gives PySem.F.slot_NoneType_eq (by rfl) PySem.F.entry_NoneType_eq (PySem.F.args_NoneType_eq_2 _ _) (m := .val .notImplemented) (.of_wp fun M A E s Q h => by obtain ⟨hp, g, d, tk, os⟩ := s; wp_walk; exact ⟨_, rfl, h⟩) h⟩
  · refine ⟨_, PySem.F.slot_NoneType_ne, fun Q' h => call_gives PySem.F.slot_NoneType_ne (by rfl) PySem.F.entry_NoneType_ne (PySem.F.args_NoneType_ne_2 _ _) (m := .val .notImplemented) (.of_wp fun M A E s Q h => by obtain ⟨hp, g, d, tk, os⟩ := s; wp_walk; exact ⟨_, rfl, h⟩) h⟩
theorem int_dec (op : CmpOp) (ho : op = .Eq ∨ op = .NotEq) {i : Int} {u : Tok} {dx : Addr} (hx : s.heap.get? x = some (instObj C dx)) : ∃ ida, Slot "int" (cmpInfo op).2.1 ida ∧ ∀ Q' : Value → Shared → Prop, Q' .notImplemented s → wpAny (model prog w) A (call (.builtin ida) [.int i u, .ref x]) Q' E s := by
  rcases ho with rfl | rfl
  · refine ⟨_, PySem.F.slot_int_eq, fun Q' h => call_meets PySem.F.slot_int_eq (typeIs_int _ _ _) PySem.F.entry_int_eq (PySem.F.args_int_eq_2 _ _) (S := fun _ R s => s.heap.get? x = some (instObj C dx) ∧ R (.ok (.ret .notImplemented)) s) (.of_wp fun prog w A R s h => ?_) ⟨hx, h⟩⟩
    obtain ⟨hp, g, d, tk, os⟩ := s; obtain ⟨hl, h⟩ := h
    wp_walk using wpAny_loadPart' hl, wpAny_load hl
    exact ⟨_, rfl, h⟩
  · refine ⟨_, PySem.F.slot_int_ne, fun Q' h => call_meets PySem.F.slot_int_ne (typeIs_int _ _ _) PySem.F.entry_int_ne (PySem.F.args_int_ne_2 _ _) (S := fun _ R s => s.heap.get? x = some (instObj C dx) ∧ R (.ok (.ret .notImplemented)) s) (.of_wp fun prog w A R s h => ?_) ⟨hx, h⟩⟩
    obtain ⟨hp, g, d, tk, os⟩ := s; obtain ⟨hl, h⟩ := h
    wp_walk using wpAny_loadPart' hl, wpAny_load hl
    exact ⟨_, rfl, h⟩
theorem str_dec (op : CmpOp) (ho : op = .Eq ∨ op = .NotEq) {i : Str} {u : Tok} {dx : Addr} (hx : s.heap.get? x = some (instObj C dx)) : ∃ ida, Slot "str" (cmpInfo op).2.1 ida ∧ ∀ Q' : Value → Shared → Prop, Q' .notImplemented s → wpAny (model prog w) A (call (.builtin ida) [.str i u, .ref x]) Q' E s := by
  rcases ho with rfl | rfl
  · refine ⟨_, PySem.F.slot_str_eq, fun Q' h => call_meets PySem.F.slot_str_eq (typeIs_str _ _ _) PySem.F.entry_str_eq (PySem.F.args_str_eq_2 _ _) (S := fun _ R s => s.heap.get? x = some (instObj C dx) ∧ R (.ok (.ret .notImplemented)) s) (.of_wp fun prog w A R s h => ?_) ⟨hx, h⟩⟩
    obtain ⟨hp, g, d, tk, os⟩ := s; obtain ⟨hl, h⟩ := h
    wp_walk using wpAny_loadPart' hl, wpAny_load hl
    exact ⟨_, rfl, h⟩
  · refine ⟨_, PySem.F.slot_str_ne, fun Q' h => call_meets PySem.F.slot_str_ne (typeIs_str _ _ _) PySem.F.entry_str_ne (PySem.F.args_str_ne_2 _ _) (S := fun _ R s => s.heap.get? x = some (instObj C dx) ∧ R (.ok (.ret .notImplemented)) s) (.of_wp fun prog w A R s h => ?_) ⟨hx, h⟩⟩
    obtain ⟨hp, g, d, tk, os⟩ := s; obtain ⟨hl, h⟩ := h
    wp_walk using wpAny_loadPart' hl, wpAny_load hl
    exact ⟨_, rfl, h⟩
theorem list_dec (op : CmpOp) (ho : op = .Eq ∨ op = .NotEq) {l : Addr} {items : Array Value} {n : Nat} {dd : Option Addr} {sl : Array (Option Value)} (hl : s.heap.get? l = some { cls := .type "list", dict := dd, data := .seq items n, slots := sl }) (hx : ∀ M : Model, Looks M s.heap (isInstance (.ref x) (.type "list")) false) : ∃ ida, Slot "list" (cmpInfo op).2.1 ida ∧ ∀ Q' : Value → Shared → Prop, Q' .notImplemented s → wpAny (model prog w) A (call (.builtin ida) [.ref l, .ref x]) Q' E s := by
  rcases ho with rfl | rfl
  · refine ⟨_, PySem.F.slot_list_eq, fun Q' h => call_meets PySem.F.slot_list_eq ⟨_, hl, rfl⟩ PySem.F.entry_list_eq (PySem.F.args_list_eq_2 _ _) (S := fun _ R s => s.heap.get? l = some { cls := .type "list", dict := dd, data := .seq items n, slots := sl } ∧ (∀ M : Model, Looks M s.heap (isInstance (.ref x) (.type "list")) false) ∧ R (.ok (.ret .notImplemented)) s) (.of_wp fun prog w A R s h => ?_) ⟨hl, hx, h⟩⟩
    obtain ⟨hp, g, d, tk, os⟩ := s; obtain ⟨hl, hx, h⟩ := h
    wp_walk using wpAny_loadPart' hl, wpAny_load hl, (hx _).here
    exact ⟨_, rfl, h⟩
  · refine ⟨_, PySem.F.slot_list_ne, fun Q' h => call_meets PySem.F.slot_list_ne ⟨_, hl, rfl⟩ PySem.F.entry_list_ne (PySem.F.args_list_ne_2 _ _) (S := fun _ R s => s.heap.get? l = some { cls := .type "list", dict := dd, data := .seq items n, slots := sl } ∧ (∀ M : Model, Looks M s.heap (isInstance (.ref x) (.type "list")) false) ∧ R (.ok (.ret .notImplemented)) s) (.of_wp fun prog w A R s h => ?_) ⟨hl, hx, h⟩⟩
    obtain ⟨hp, g, d, tk, os⟩ := s; obtain ⟨hl, hx, h⟩ := h
    wp_walk using wpAny_loadPart' hl, wpAny_load hl, (hx _).here
    exact ⟨_, rfl, h⟩
theorem tuple_dec (op : CmpOp) (ho : op = .Eq ∨ op = .NotEq) {l : Addr} {items : Array Value} {n : Nat} {dd : Option Addr} {sl : Array (Option Value)} (hl : s.heap.get? l = some { cls := .type "tuple", dict := dd, data := .seq items n, slots := sl }) (hx : ∀ M : Model, Looks M s.heap (isInstance (.ref x) (.type "tuple")) false) : ∃ ida, Slot "tuple" (cmpInfo op).2.1 ida ∧ ∀ Q' : Value → Shared → Prop, Q' .notImplemented s → wpAny (model prog w) A (call (.builtin ida) [.ref l, .ref x]) Q' E s := by
  rcases ho with rfl | rfl
  · refine ⟨_, PySem.F.slot_tuple_eq, fun Q' h => call_meets PySem.F.slot_tuple_eq ⟨_, hl, rfl⟩ PySem.F.entry_tuple_eq (PySem.F.args_tuple_eq_2 _ _) (S := fun _ R s => s.heap.get? l = some { cls := .type "tuple", dict := dd, data := .seq items n, slots := sl } ∧ (∀ M : Model, Looks M s.heap (isInstance (.ref x) (.type "tuple")) false) ∧ R (.ok (.ret .notImplemented)) s) (.of_wp fun prog w A R s h => ?_) ⟨hl, hx, h⟩⟩
    obtain ⟨hp, g, d, tk, os⟩ := s; obtain ⟨hl, hx, h⟩ := h
    wp_walk using wpAny_loadPart' hl, wpAny_load hl, (hx _).here
    exact ⟨_, rfl, h⟩
  · refine ⟨_, PySem.F.slot_tuple_ne, fun Q' h => call_meets PySem.F.slot_tuple_ne ⟨_, hl, rfl⟩ PySem.F.entry_tuple_ne (PySem.F.args_tuple_ne_2 _ _) (S := fun _ R s => s.heap.get? l = some { cls := .type "tuple", dict := dd, data := .seq items n, slots := sl } ∧ (∀ M : Model, Looks M s.heap (isInstance (.ref x) (.type "tuple")) false) ∧ R (.ok (.ret .notImplemented)) s) (.of_wp fun prog w A R s h => ?_) ⟨hl, hx, h⟩⟩
    obtain ⟨hp, g, d, tk, os⟩ := s; obtain ⟨hl, hx, h⟩ := h
    wp_walk using wpAny_loadPart' hl, wpAny_load hl, (hx _).here
    exact ⟨_, rfl, h⟩
end
end Pk
namespace Pk
open PySem L2 PyProof.Rows PySem.W GQ MeetsSeq
section
variable {prog : Program} {w : World} {A : Around}
/-- != of two tuples whose items are equal, pair by pair -/
theorem tup_neG {R : Result → Shared → Prop} (l1 l2 : Addr) (xs ys : Array Value) (n1 n2 : Nat) (d1 d2 : Option Addr) (sl1 sl2 : Array (Option Value)) (hs : xs.size = ys.size) (J : Nat → Shared → Prop)
    (step : ∀ i (h1 : i < xs.size) (h2 : i < ys.size) s, J i s → wpAny (model prog w) A.in1 (eqBool xs[i] ys[i]) (fun r s' => r = true ∧ J (i + 1) s') (fun e s' => R (.error e) s') s)
    (last : ∀ s, J xs.size s → R (.ok (.ret (.bool false))) s) {s : Shared} (g1 : s.heap.get? l1 = some { cls := .type "tuple", dict := d1, data := .seq xs n1, slots := sl1 }) (g2 : s.heap.get? l2 = some { cls := .type "tuple", dict := d2, data := .seq ys n2, slots := sl2 }) (h0 : J 0 s) :
    wpAny (model prog w) A.in1 (Builtin.«tuple.__ne__» ⟨[.ref l1, .ref l2], []⟩) (FinOf prog w A R) (fun e s' => R (.error e) s') s := by
  have t1 := AutoSeq1.sub_tuple_tuple
  have hz : (xs.toList.zip ys.toList).length = xs.size := by simp [hs]
  have hj := h0
  obtain ⟨hp, gn, dr, tk, os⟩ := s
  wp_walk using AutoSeq1.wpAny_loadPart' g1, AutoSeq1.wpAny_loadPart' g2, wpAny_forIn_list _ (fun left st s' => st.1 = none ∧ ∃ i, left = (xs.toList.zip ys.toList).drop i ∧ i ≤ xs.size ∧ J i s') _
  case turn =>
    rintro ⟨u, v⟩ left st s' ⟨e0, i, e1, hi, hJ⟩
    have lt : i < (xs.toList.zip ys.toList).length := by
      refine Nat.lt_of_not_ge fun ge => ?_
      rw [List.drop_of_length_le ge] at e1
      cases e1
    have k1 : i < xs.size := hz ▸ lt
    have k2 : i < ys.size := hs ▸ k1
    rw [List.drop_eq_getElem_cons lt] at e1
    injection e1 with e2 e3
    have eu : u = xs[i] := by simpa using congrArg Prod.fst e2
    have ev : v = ys[i] := by simpa using congrArg Prod.snd e2
    subst eu ev
    refine wpAny_bind (wpAny_mono (step i k1 k2 s' hJ) (fun r s2 q => ?_) fun _ _ z => z)
    obtain ⟨e, q⟩ := q
    subst e
    wp_walk
    exact ⟨rfl, i + 1, e3, k1, q⟩
  case fin =>
    rintro ⟨c1, c2⟩ s' ⟨e0, i, e1, hi, hJ⟩
    simp only at e0
    subst e0
    have ge : xs.size ≤ i := by
      refine Nat.le_of_not_lt fun lt => ?_
      rw [List.drop_eq_getElem_cons (by omega)] at e1
      cases e1
    have ei : i = xs.size := by omega
    have done := last s' (ei ▸ hJ)
    wp_walk
    simpa [Builtin.Tuple.tupleCompareSizes, hs] using done
  case h =>
    exact ⟨rfl, 0, rfl, Nat.zero_le _, hj⟩
end
end Pk
namespace Pk
open PySem L2 PyProof.Rows PySem.W GQ MeetsSeq
section
variable {prog : Program} {w : World} {A : Around} {E : Value → Shared → Prop} {s : Shared}
/-- the first item is equal to what is sought -/
theorem head_in {R : Result → Shared → Prop} (l : Addr) (u y : Value) (its : Array Value) (n : Nat) (dd : Option Addr) (sl : Array (Option Value)) (h0 : its[0]? = some y) (g : s.heap.get? l = some { cls := .type "list", dict := dd, data := .seq its n, slots := sl })
    (h : wpAny (model prog w) A.in1 (eqBool y u) (fun r s' => r = true ∧ R (.ok (.ret (.bool true))) s') (fun e s' => R (.error e) s') s) :
    wpAny (model prog w) A.in1 (Builtin.«list.__contains__» ⟨[.ref l, u], []⟩) (FinOf prog w A R) (fun e s' => R (.error e) s') s := by
  have inner : wpAny (model prog w) A.in1 (Builtin.«list.__contains__.loop» ⟨[.ref l, u, rawInt 0], []⟩) (FinOf prog w A R) (fun e s' => R (.error e) s') s := by
    obtain ⟨hp, gn, dr, tk, os⟩ := s
    wp_walk using AutoSeq1.wpAny_loadPart' g
    rw [show its[Int.toNat 0]? = some y from h0]
    refine wpAny_bind (m := eqBool y u) (wpAny_mono h (fun r s2 q => ?_) fun _ _ z => z)
    obtain ⟨e, q⟩ := q
    subst e
    wp_walk
    exact q
  obtain ⟨hp, gn, dr, tk, os⟩ := s
  wp_walk using AutoSeq1.wpAny_loadPart' g
  exact ⟨plainId_quiet plain_contains_loop _, codeAny_builtin entry_contains_loop (by
    rw [Around.under_plainId plain_contains_loop _]
    exact inner)⟩
end
end Pk
end
section
set_option Elab.async false
set_option linter.all false
set_option maxRecDepth 100000
set_option maxHeartbeats 2000000
/-! Sets of texts and of tuples: one more member. -/
namespace Pk
open PySem L2 PyProof.Rows

abbrev El := Value × NestedKey
def entsOf (w : World) (L : List El) : List (Int × Value) := L.map fun p => (p.2.hash w, p.1)
def hashesOf (w : World) (L : List El) : List Int := L.map fun p => p.2.hash w
theorem perm_back {α β : Type} {f : α → β} {l k : List β} (h : l.Perm k) : ∀ {m : List α}, m.map f = k → ∃ m' : List α, m'.Perm m ∧ m'.map f = l := by
  induction h with
  | nil => exact fun {m} e => ⟨m, List.Perm.refl _, e⟩
  | @cons x a b _ ih =>
    intro m e
    obtain ⟨y, r, rfl, ey, er⟩ := List.map_eq_cons_iff.mp e
    obtain ⟨m', p, q⟩ := ih er
    exact ⟨y :: m', p.cons y, by rw [List.map_cons, ey, q]⟩
  | swap x y a =>
    intro m e
    obtain ⟨u, r, rfl, eu, er⟩ := List.map_eq_cons_iff.mp e
    obtain ⟨v, r2, rfl, ev, er2⟩ := List.map_eq_cons_iff.mp er
    exact ⟨v :: u :: r2, List.Perm.swap _ _ _, by rw [List.map_cons, List.map_cons, eu, ev, er2]⟩
  | trans _ _ i1 i2 =>
    intro m e
    obtain ⟨m2, p2, q2⟩ := i2 e
    obtain ⟨m1, p1, q1⟩ := i1 q2
    exact ⟨m1, p1.trans p2, q1⟩
theorem entsOf_len {w : World} {L : List El} {es : Array (Int × Value)} (h : es.toList = entsOf w L) : es.size = L.length := by
  rw [← Array.length_toList, h, entsOf, List.length_map]
/-- the set at a, its members L in the order of its slots -/
structure Laid (w : World) (h : Heap) (a : Addr) (L : List El) (es : Array (Int × Value)) (ep : Nat) (t : SetTable) : Prop where
  ob : ∃ o, h.get? a = some o ∧ o.ExactSet ∧ o.data = .set es ep t
  rows : es.toList = entsOf w L
  nd : (L.map (·.2)).Nodup
  els : ∀ p ∈ L, NestedIs h p.2 p.1
  led : w.params.followText "set-order" = true ∨ t.led = true
  ris : Ris t.place.toList
  fit : t.fits es.size = true
  less : L.length < scanBound
theorem Laid.size {w : World} {h : Heap} {a : Addr} {L : List El} {es : Array (Int × Value)} {ep : Nat} {t : SetTable} (R : Laid w h a L es ep t) : es.size = L.length := entsOf_len R.rows
theorem nested_but {h h' : Heap} {a : Addr} {o : Obj} {es : Array (Int × Value)} {ep : Nat} {t : SetTable} (ho : h.get? a = some o) (hd : o.data = .set es ep t) (sb : Heap.SameBut a h h') {k : NestedKey} {v : Value} (x : NestedIs h k v) : NestedIs h' k v :=
  NestedIs.at (fun b u vs n e c => (sb.2 b fun q => by
    rw [q, ho] at e
    rw [← Option.some.inj e, hd] at c
    cases c).trans e) k v x
/-- what adding must promise -/
def Adds (P : Program) (w : World) (good : El → Prop) (T : Heap → Addr → List El → Prop) (most : Nat) : Prop :=
  ∀ {A : Around} {E : Value → Shared → Prop} {s : Shared} {a : Addr} {L : List El} {x : El} {Q : Bool → Shared → Prop}, A.units + 12 < cLine → T s.heap a L → good x → NestedIs s.heap x.2 x.1 → L.length + 1 < most →
    (∀ b h' L', Heap.SameBut a s.heap h' → T h' a L' → (x.2 ∈ L.map (·.2) → L' = L) → (x.2 ∉ L.map (·.2) → L'.Perm (x :: L)) → Q b { s with heap := h' }) →
    wpAny (model P w) A (setAddHashed a x.1 (x.2.hash w)) Q E s

/-! ### texts -/
def TxtEl (p : El) : Prop := ∃ x t, p = (Value.str x t, NestedKey.text x)
def TxtSet (w : World) (h : Heap) (a : Addr) (L : List El) : Prop := (∀ p ∈ L, TxtEl p) ∧ ∃ es ep t, Laid w h a L es ep t
section
variable {P : Program} {w : World}
theorem txt_elems {L : List El} (ht : ∀ p ∈ L, TxtEl p) : ElemsOf (PySem.strKind P w) (entsOf w L) := fun e he => by
  obtain ⟨p, hp, rfl⟩ := List.mem_map.mp he
  obtain ⟨x, t, rfl⟩ := ht p hp
  exact ⟨⟨x, strKind_is P w x t, rfl⟩, rfl⟩
theorem txt_has {L : List El} (ht : ∀ p ∈ L, TxtEl p) (y : Str) : NestedKey.text y ∈ L.map (·.2) ↔ ∃ e ∈ entsOf w L, (PySem.strKind P w).is y e.2 = true := by
  constructor
  · intro m
    obtain ⟨p, hp, e⟩ := List.mem_map.mp m
    obtain ⟨x, t, rfl⟩ := ht p hp
    obtain rfl : x = y := NestedKey.text.inj e
    exact ⟨_, List.mem_map.mpr ⟨_, hp, rfl⟩, strKind_is P w x t⟩
  · rintro ⟨e, he, q⟩
    obtain ⟨p, hp, rfl⟩ := List.mem_map.mp he
    obtain ⟨x, t, rfl⟩ := ht p hp
    have e2 : y = x := (PySem.strKind P w).inj _ y x q (strKind_is P w x t)
    exact List.mem_map.mpr ⟨_, hp, by rw [e2]⟩
/-- the new entries are laid; the table may be laid anew -/
theorem txt_tail {A : Around} {E : Value → Shared → Prop} {s : Shared} {a : Addr} {L1 : List El} {o : Obj} {es0 es1 : Array (Int × Value)} {ep : Nat} {t0 t1 : SetTable} {R : Option Bool → Shared → Prop} {wasDummy : Bool} {g : Bool → Sem Unit}
    (hg : ∀ (b : Bool) (s₁ : Shared) (Q' : Unit → Shared → Prop), Q' () s₁ → wpAny (model P w) A (g b) Q' E s₁)
    (ho : s.heap.get? a = some o) (hex : o.ExactSet) (hd : o.data = .set es0 ep t0) (ht : ∀ p ∈ L1, TxtEl p) (hr : es1.toList = entsOf w L1) (nd : (L1.map (·.2)).Nodup) (hl : L1.length < scanBound)
    (hf : t1.fits es1.size = true) (ri : Ris t1.place.toList) (ld : w.params.followText "set-order" = true ∨ t1.led = true)
    (hR : ∀ h' L', Heap.SameBut a s.heap h' → TxtSet w h' a L' → L'.Perm L1 → R (some true) { s with heap := h' }) :
    wpAny (model P w) A (do
      storeSet a es1 t1
      if (!wasDummy && t1.tooFull) = true then do
        g (relayAll t1 es1 (SetTable.grown es1.size)).2.2
        storeSet a (relayAll t1 es1 (SetTable.grown es1.size)).1 (relayAll t1 es1 (SetTable.grown es1.size)).2.1
        pure (some true)
      else pure (some true)) R E s := by
  have hsz : es1.size = L1.length := entsOf_len hr
  have nest : ∀ (L : List El) (h' : Heap), (∀ p ∈ L, TxtEl p) → ∀ p ∈ L, NestedIs h' p.2 p.1 := fun L h' q p hp => by
    obtain ⟨x, t, rfl⟩ := q p hp
    exact .text x t
  refine wpAny_bind (wpAny_storeSet_of ho hd ?_ (fits_of_scanBound (hsz ▸ hl)))
  have ho1 := store_at (es' := es1) (t' := t1) ho hd
  have sb1 := Heap.SameBut.update s.heap a (Obj.putSet es1 t1)
  by_cases c : (!wasDummy && t1.tooFull) = true
  · rw [if_pos c]
    have pm := relayAll_perm t1 es1 (SetTable.grown es1.size)
    have f3 := relayAll_fits t1 es1 (SetTable.grown es1.size)
    have r3 := relayAll_ris t1 es1 (SetTable.grown es1.size)
    have l3 := relayAll_led t1 es1 (SetTable.grown es1.size)
    revert pm f3 r3 l3
    generalize relayAll t1 es1 (SetTable.grown es1.size) = z
    obtain ⟨es2, t2, gave⟩ := z
    intro pm f3 r3 l3
    dsimp only at pm f3 r3 l3 ⊢
    rw [hr] at pm
    obtain ⟨L2, p2, q2⟩ := perm_back pm rfl
    have hl2 : L2.length < scanBound := by rw [p2.length_eq]; exact hl
    have ht2 : ∀ p ∈ L2, TxtEl p := fun p hp => ht p (p2.mem_iff.mp hp)
    refine wpAny_bind (hg _ _ _ (wpAny_bind (wpAny_storeSet_of ho1 rfl ?_ (fits_of_scanBound (by rw [entsOf_len (L := L2) q2.symm]; exact hl2)))))
    have ho2 := store_at (es' := es2) (t' := t2) ho1 rfl
    refine wpAny_pure (hR _ L2 (sb1.trans (Heap.SameBut.update _ a _)) ⟨ht2, es2, _, t2, ⟨_, ho2, hex, rfl⟩, q2.symm, (p2.map (·.2)).nodup_iff.mpr nd, nest L2 _ ht2, ?_, r3, f3, hl2⟩ p2)
    rw [l3]
    exact ld
  · rw [if_neg c]
    exact wpAny_pure (hR _ L1 sb1 ⟨ht, es1, _, t1, ⟨_, ho1, hex, rfl⟩, hr, nd, nest L1 _ ht, ld, ri, hf, hl⟩ (List.Perm.refl _))
theorem adds_txt : Adds P w TxtEl (TxtSet w) scanBound := by
  intro A E s a L x Q hu hT hx hn hroom hQ
  obtain ⟨ht, es, ep, t, R⟩ := hT
  obtain ⟨y, tk, rfl⟩ := hx
  obtain ⟨o, ho, hex, hd⟩ := R.ob
  have hb : es.size < scanBound := by rw [R.size]; exact R.less
  have hel : ElemsOf (PySem.strKind P w) es.toList := by rw [R.rows]; exact txt_elems ht
  show wpAny (model P w) A (setAddHashed a (.str y tk) ((PySem.strKind P w).hash y)) Q E s
  unfold setAddHashed setAddHashedIn
  refine wpAny_holding (wpAny_bind (wpAny_setState_of ho hd R.fit ?_))
  dsimp only
  rw [byScan_of (x := Value.str y tk) rfl hb hel]
  simp only [↓reduceIte]
  unfold setAddByScan
  refine wpAny_bind (wpAny_bind (wpAny_rule (wpAny_bind (wpAny_setScan_of (strKind_is P w y tk) ho hd R.fit hel ?_))))
  have hm := txt_has (P := P) (w := w) ht y
  rw [← R.rows] at hm
  cases hfi : List.findIdx? (fun e => (PySem.strKind P w).is y e.2) es.toList with
  | some j =>
    dsimp only
    obtain ⟨hj, pj, _⟩ := List.findIdx?_eq_some_iff_getElem.mp hfi
    have inn : NestedKey.text y ∈ L.map (·.2) := hm.2 ⟨es.toList[j], List.getElem_mem hj, pj⟩
    exact wpAny_pure (wpAny_pure (hQ false s.heap L (.refl a s.heap) ⟨ht, es, ep, t, R⟩ (fun _ => rfl) fun q => (q inn).elim))
  | none =>
    dsimp only
    have out : NestedKey.text y ∉ L.map (·.2) := fun z => by
      obtain ⟨e, he, q⟩ := hm.1 z
      have := List.findIdx?_eq_none_iff.mp hfi e he
      rw [q] at this
      cases this
    have pm := layNew_perm t es ((PySem.strKind P w).hash y) (.str y tk)
    have f1 := layNew_fits t es ((PySem.strKind P w).hash y) (.str y tk)
    have r1 := layNew_ris t es ((PySem.strKind P w).hash y) (.str y tk) R.ris
    have l1 := layNew_led t es ((PySem.strKind P w).hash y) (.str y tk)
    revert pm f1 r1 l1
    generalize layNew t es ((PySem.strKind P w).hash y) (.str y tk) = z
    obtain ⟨es1, t1, wasDummy, gave⟩ := z
    intro pm f1 r1 l1
    dsimp only at pm f1 r1 l1 ⊢
    rw [Array.toList_push, R.rows] at pm
    have pm2 : es1.toList.Perm (entsOf w ((Value.str y tk, NestedKey.text y) :: L)) := pm.trans (List.perm_append_singleton _ _)
    obtain ⟨L1, p1, q1⟩ := perm_back pm2 rfl
    have ht1 : ∀ p ∈ L1, TxtEl p := fun p hp => by
      rcases List.mem_cons.mp (p1.mem_iff.mp hp) with e | hp
      · exact ⟨y, tk, e⟩
      · exact ht p hp
    have nd1 : (L1.map (·.2)).Nodup := (p1.map (·.2)).nodup_iff.mpr (List.nodup_cons.mpr ⟨out, R.nd⟩)
    have hl1 : L1.length < scanBound := by rw [p1.length_eq]; exact hroom
    have ld1 : w.params.followText "set-order" = true ∨ t1.led = true := by rw [l1]; exact R.led
    have gw : ∀ (b : Bool) (s₁ : Shared) (Q' : Unit → Shared → Prop), Q' () s₁ → wpAny (model P w) A (match b with | true => rule "set.scan.the-table-gave-way" | false => pure ()) Q' E s₁ :=
      fun b s₁ Q' q => by cases b <;> first | exact wpAny_pure q | exact wpAny_rule q
    have fin : ∀ h' L', Heap.SameBut a s.heap h' → TxtSet w h' a L' → L'.Perm L1 → Q true { s with heap := h' } := fun h' L' sb T' p' => hQ true h' L' sb T' (fun z => (out z).elim) fun _ => p'.trans p1
    refine wpAny_bind (gw _ _ _ ?_)
    split
    · refine wpAny_bind ?_
      rw [hashByValue_scannable 8 (x := Value.str y tk) rfl]
      refine wpAny_pure ?_
      refine txt_tail (L1 := L1) (fun b s₁ Q' q => gw b s₁ Q' q) ho hex hd ht1 q1.symm nd1 hl1 ?_ ?_ ?_ ?_
      · first | (split <;> first | exact f1 | exact SetTable.fits_plain_off f1) | exact f1
      · first | (split <;> exact r1) | exact r1
      · first | (split <;> exact ld1) | exact ld1
      · exact fun h' L' sb T' p' => wpAny_pure (fin h' L' sb T' p')
    · refine wpAny_bind (wpAny_pure ?_)
      simp only [↓reduceIte]
      exact txt_tail (L1 := L1) (fun b s₁ Q' q => gw b s₁ Q' q) ho hex hd ht1 q1.symm nd1 hl1 f1 r1 ld1 fun h' L' sb T' p' => wpAny_pure (fin h' L' sb T' p')
end
end Pk
end
section
set_option Elab.async false
set_option linter.all false
set_option maxRecDepth 100000
set_option maxHeartbeats 2000000
/-! Sets of tuples, nested: one more member. -/
namespace Pk
open PySem L2 PyProof.Rows

section
variable {P : Program} {w : World}
/-! ### small questions -/
mutual
theorem class_no : ∀ (k : NestedKey) (v : Value) (n : Nat) (A : Around) (E : Value → Shared → Prop) (s : Shared) (Q : Bool → Shared → Prop), NestedIs s.heap k v → k.depth ≤ n → Q false s → wpAny (model P w) A (ofAClassStatement n v) Q E s
  | .none, _, n, A, E, s, Q, x, _, h => by cases x; cases n <;> exact wpAny_pure h
  | .num i, _, n, A, E, s, Q, x, _, h => by cases x <;> cases n <;> exact wpAny_pure h
  | .text y, _, n, A, E, s, Q, x, _, h => by cases x; cases n <;> exact wpAny_pure h
  | .tup ks, _, n, A, E, s, Q, x, hn, h => by
    cases x with
    | @tup b o vs c _ ho hc hd hk =>
      have dep : NestedKey.depthAll ks + 1 ≤ n := hn
      cases n with
      | zero => omega
      | succ n =>
        unfold ofAClassStatement
        refine wpAny_bind (wpAny_typeOf (T := "tuple") ⟨o, ho, hc⟩ ?_)
        dsimp only
        simp only [show (("tuple" : String) == "tuple") = true by decide, if_true, Bool.not_true, Bool.false_eq_true, if_false]
        try refine wpAny_bind (wpAny_pure ?_)
        try simp only [Bool.not_true, Bool.false_eq_true, if_false]
        show wpAny _ _ (seqItems? (Value.ref b) >>= _) _ _ s
        refine wpAny_bind (wpAny_seqItems ho hd ?_)
        dsimp only
        refine wpAny_bind ?_
        show wpAny _ _ (forIn vs _ _) _ _ s
        rw [← Array.forIn_toList]
        refine wpAny_forIn_list _ (fun rest r s' => r.1 = none ∧ s' = s ∧ ∀ v ∈ rest, ∀ (Q' : Bool → Shared → Prop), Q' false s → wpAny (model P w) A (ofAClassStatement n v) Q' E s) _ ?_ ?_ _ _ ⟨rfl, rfl, fun v hv Q' q => class_noAll ks vs.toList n A E s hk (by omega) v hv Q' q⟩
        · rintro v rest r s' ⟨hr, rfl, hall⟩
          refine wpAny_bind (hall v List.mem_cons_self _ ?_)
          simp only [Bool.false_eq_true, if_false]
          exact wpAny_pure ⟨rfl, rfl, fun u m => hall u (List.mem_cons_of_mem _ m)⟩
        · rintro ⟨r1, r2⟩ s' ⟨hr, rfl, _⟩
          dsimp only at hr
          subst hr
          exact wpAny_pure h
theorem class_noAll : ∀ (ks : List NestedKey) (vs : List Value) (n : Nat) (A : Around) (E : Value → Shared → Prop) (s : Shared), NestedAll s.heap ks vs → NestedKey.depthAll ks ≤ n →
    ∀ v ∈ vs, ∀ (Q : Bool → Shared → Prop), Q false s → wpAny (model P w) A (ofAClassStatement n v) Q E s
  | [], _, _, _, _, _, x, _, v, m, _, _ => by cases x; cases m
  | k :: ks, _, n, A, E, s, x, hn, v, m, Q, q => by
    cases x with
    | cons x1 x2 =>
      have dep : max k.depth (NestedKey.depthAll ks) ≤ n := hn
      rcases List.mem_cons.mp m with rfl | m
      · exact class_no k _ n A E s Q x1 (by omega) q
      · exact class_noAll ks _ n A E s x2 (by omega) v m Q q
end
mutual
theorem byValue_some : ∀ (k : NestedKey) (v : Value) (n : Nat) (A : Around) (E : Value → Shared → Prop) (s : Shared) (Q : Bool → Shared → Prop), NestedIs s.heap k v → (∀ b, Q b s) → wpAny (model P w) A (hashByValue n v) Q E s
  | .none, _, n, A, E, s, Q, x, h => by cases x; cases n <;> exact wpAny_pure (h _)
  | .num i, _, n, A, E, s, Q, x, h => by cases x <;> cases n <;> exact wpAny_pure (h _)
  | .text y, _, n, A, E, s, Q, x, h => by cases x; cases n <;> exact wpAny_pure (h _)
  | .tup ks, _, n, A, E, s, Q, x, h => by
    cases x with
    | @tup b o vs c _ ho hc hd hk =>
      cases n with
      | zero => exact wpAny_pure (h _)
      | succ n =>
        unfold hashByValue
        refine wpAny_bind (wpAny_specialOf (T := "tuple") ⟨o, ho, hc⟩ F.slot_tuple_hash.lookup ?_)
        show wpAny _ _ (seqItems? (Value.ref b) >>= _) _ _ s
        refine wpAny_bind (wpAny_seqItems ho hd ?_)
        refine wpAny_bind ?_
        show wpAny _ _ (forIn vs _ _) _ _ s
        rw [← Array.forIn_toList]
        refine wpAny_forIn_list _ (fun rest r s' => r.1 = none ∧ s' = s ∧ ∀ v ∈ rest, ∀ (Q' : Bool → Shared → Prop), (∀ b, Q' b s) → wpAny (model P w) A (hashByValue n v) Q' E s) _ ?_ ?_ _ _ ⟨rfl, rfl, fun v hv Q' q => byValue_someAll ks vs.toList n A E s hk v hv Q' q⟩
        · rintro v rest r s' ⟨hr, rfl, hall⟩
          refine wpAny_bind (hall v List.mem_cons_self _ fun b => ?_)
          cases b
          · simp only [Bool.not_false, if_true]
            exact wpAny_pure (wpAny_pure (h _))
          · simp only [Bool.not_true, Bool.false_eq_true, if_false]
            exact wpAny_pure ⟨rfl, rfl, fun u m => hall u (List.mem_cons_of_mem _ m)⟩
        · rintro ⟨r1, r2⟩ s' ⟨hr, rfl, _⟩
          dsimp only at hr
          subst hr
          exact wpAny_pure (h true)
theorem byValue_someAll : ∀ (ks : List NestedKey) (vs : List Value) (n : Nat) (A : Around) (E : Value → Shared → Prop) (s : Shared), NestedAll s.heap ks vs →
    ∀ v ∈ vs, ∀ (Q : Bool → Shared → Prop), (∀ b, Q b s) → wpAny (model P w) A (hashByValue n v) Q E s
  | [], _, _, _, _, _, x, v, m, _, _ => by cases x; cases m
  | k :: ks, _, n, A, E, s, x, v, m, Q, q => by
    cases x with
    | cons x1 x2 =>
      rcases List.mem_cons.mp m with rfl | m
      · exact byValue_some k _ n A E s Q x1 q
      · exact byValue_someAll ks _ n A E s x2 v m Q q
end
/-! ### the search -/
def TupEl (p : El) : Prop := (∃ b, p.1 = Value.ref b) ∧ p.2.depth ≤ 8
structure TupAt (w : World) (h : Heap) (a : Addr) (L : List El) (es : Array (Int × Value)) (ep : Nat) (t : SetTable) : Prop extends Laid w h a L es ep t where
  good : ∀ p ∈ L, TupEl p
  tab : TabOk t (hashesOf w L)
  room : L.length * 5 < t.mask * 3
def TupSet (w : World) (h : Heap) (a : Addr) (L : List El) : Prop := ∃ es ep t, TupAt w h a L es ep t
variable {A : Around} {E : Value → Shared → Prop} {s : Shared} {a : Addr} {L : List El} {es : Array (Int × Value)} {ep : Nat} {t : SetTable}
theorem odd_mask {m : Nat} (h : MaskOk m) (c : m % 2 ≠ 1) : False := by
  rcases h with rfl | rfl | rfl <;> exact c rfl
theorem TupAt.stays (R : TupAt w s.heap a L es ep t) : ¬ t.gaveWay = true := fun q => odd_mask R.tab.mok fun c => by
  unfold SetTable.gaveWay at q
  rw [c] at q
  cases q
theorem TupAt.item (R : TupAt w s.heap a L es ep t) {i : Nat} {p : El} (h : L[i]? = some p) : es[i]? = some (p.2.hash w, p.1) := by
  rw [← Array.getElem?_toList, R.rows, entsOf, List.getElem?_map, h]
  rfl
theorem TupAt.eq_of (R : TupAt w s.heap a L es ep t) {i : Nat} {p : El} (h : L[i]? = some p) : p.2.hash w = ((fun i => (es[i]?.map (·.1)).getD 0) i) := by
  show _ = (es[i]?.map (·.1)).getD 0
  rw [R.item h]
  rfl
/-- the probe at the c-th step from the hash -/
abbrev stepAt (t : SetTable) (H : Int) (c : Nat) : SetTable.Probe := nth t.mask (runAt t.mask (SetTable.bits H % (t.mask + 1)) (SetTable.bits H)) c
theorem step_plain (m : Nat) : ∀ (n : Nat) (p : SetTable.Probe), p.dummy = none → (nth m p n).dummy = none
  | 0, _, h => h
  | n + 1, p, h => step_plain m n (adv m p) (by unfold adv; split <;> exact h)
theorem probed (t : SetTable) (H : Int) (c q : Nat) : nth t.mask (stepAt t H c) q = stepAt t H (c + q) := (nth_add t.mask c _ q).symm
theorem wp_ite {α : Type} {M : Model} {c : Prop} [Decidable c] {x y : Sem α} {Q : α → Shared → Prop} (h1 : wpAny M A x Q E s) (h2 : wpAny M A y Q E s) : wpAny M A (if c then x else y) Q E s := by
  split <;> assumption
/-- nobody sees the search -/
theorem unseen {x : El} {ys : List Value} {Q : Bool → Shared → Prop} (hx : NestedIs s.heap x.2 x.1) (gx : TupEl x) (hy : ∀ y ∈ ys, ∃ p : El, y = p.1 ∧ TupEl p ∧ NestedIs s.heap p.2 p.1) (h : Q false s) : wpAny (model P w) A (searchCouldBeSeen x.1 ys) Q E s := by
  unfold searchCouldBeSeen
  refine wpAny_bind ?_
  refine wpAny_forIn_list _ (fun rest r s' => r.1 = none ∧ s' = s ∧ ∀ y ∈ rest, ∃ p : El, y = p.1 ∧ TupEl p ∧ NestedIs s.heap p.2 p.1) _ ?_ ?_ _ _ ⟨rfl, rfl, hy⟩
  · rintro v rest r s' ⟨hr, rfl, all⟩
    obtain ⟨p, rfl, gp, hp⟩ := all v List.mem_cons_self
    have more : ∀ y ∈ rest, ∃ p : El, y = p.1 ∧ TupEl p ∧ NestedIs s'.heap p.2 p.1 := fun y m => all y (List.mem_cons_of_mem _ m)
    dsimp only
    refine wp_ite ?_ ?_
    · exact wpAny_pure ⟨rfl, rfl, more⟩
    · refine wpAny_bind (quiet_key _ _ 8 s' hx gx.2 _ _ _ ?_)
      simp only [Bool.not_true, Bool.false_eq_true, if_false]
      refine wpAny_bind (quiet_key _ _ 8 s' hp gp.2 _ _ _ ?_)
      simp only [Bool.not_true, Bool.false_eq_true, if_false]
      refine wpAny_bind (class_no _ _ 8 _ _ _ _ hx gx.2 ?_)
      simp only [Bool.false_eq_true, if_false]
      refine wpAny_bind (class_no _ _ 8 _ _ _ _ hp gp.2 ?_)
      simp only [Bool.false_eq_true, if_false]
      exact wpAny_pure ⟨rfl, rfl, more⟩
  · rintro ⟨r1, r2⟩ s' ⟨hr, rfl, _⟩
    dsimp only at hr
    subst hr
    exact wpAny_pure h
/-- from the c-th step on -/
theorem seek (R : TupAt w s.heap a L es ep t) {x : El} (gx : TupEl x) (hx : NestedIs s.heap x.2 x.1) (hu : A.units + 12 < cLine) {K : Nat} (hm : K < 10 * SetTable.turns t.mask)
    (free : way t.mask (x.2.hash w) K ∉ t.place.toList) (full : ∀ c, c < K → way t.mask (x.2.hash w) c ∈ t.place.toList) {Q : SetFound → Shared → Prop}
    (yes : x.2 ∈ L.map (·.2) → Q (.there none) s) (no : x.2 ∉ L.map (·.2) → Q (.free (way t.mask (x.2.hash w) K) false) s) :
    ∀ (f c : Nat) (stand : Option SetTable.Probe), stand.getD (t.probeStart (x.2.hash w)) = stepAt t (x.2.hash w) c → c ≤ K → K - c < f →
      (∀ (i : Nat) (p : El), L[i]? = some p → p.2 = x.2 → ∃ c', c ≤ c' ∧ c' < K ∧ t.place.toList[i]? = some (way t.mask (x.2.hash w) c')) →
      wpAny (model P w) A (setSearchFrom a x.1 (x.2.hash w) true f stand) Q E s := by
  intro f
  induction f with
  | zero => exact fun c _ _ _ q _ => absurd q (Nat.not_lt_zero _)
  | succ f ih =>
    intro c stand est hc hf ahead
    generalize hH : x.2.hash w = H at *
    obtain ⟨o, ho, hex, hd⟩ := R.ob
    have at_ : ∀ q, (nth t.mask (stepAt t H c) q).j = way t.mask H (c + q) := fun q => congrArg SetTable.Probe.j (probed t H c q)
    have told := go_spec t R.ris R.tab.dm (fun i => (es[i]?.map (·.1)).getD 0) H (10 * SetTable.turns t.mask) (K - c) (stepAt t H c) (step_plain _ c _ rfl) (by omega)
      (fun q hq => by rw [at_]; exact full _ (by omega)) (by rw [at_, show c + (K - c) = K by omega]; exact free)
    rw [setSearchFrom_succ]
    refine wpAny_bind (wpAny_setState_of ho hd R.fit ?_)
    dsimp only
    refine wp_if_neg R.stays ?_
    try refine wpAny_bind (wpAny_pure ?_)
    have never : ∀ (n i : Nat) (p : El), (∀ k' i' : Nat, k' < n → t.place.toList[i']? = some (nth t.mask (stepAt t H c) k').j → (fun i : Nat => (es[i]?.map (·.1)).getD 0) i' ≠ H) → L[i]? = some p → p.2 = x.2 →
        ∀ c', c ≤ c' → t.place.toList[i]? = some (way t.mask H c') → c' < c + n → False := fun n i p none_ hp hk c' h1 h3 h2 => by
      refine none_ (c' - c) i (by omega) (by rw [at_, show c + (c' - c) = c' by omega]; exact h3) ?_
      rw [← R.eq_of hp, hk]
      exact hH
    rcases told with ⟨q, i, hq, hi, hh, none_, ans⟩ | ⟨none_, ans⟩
    · have ans' : t.probe (fun i => (es[i]?.map (·.1)).getD 0) H (stand.getD (t.probeStart H)) = some (.candidate (way t.mask H (c + q)) i (stepAt t H (c + (q + 1)))) := by
        rw [est, ← at_, ← probed]
        exact ans
      rw [ans']
      dsimp only
      rw [at_] at hi
      have il : i < L.length := by
        have h1 := (List.getElem?_eq_some_iff.mp hi).1
        have h2 := R.tab.sz
        unfold hashesOf at h2
        rw [List.length_map] at h2
        rw [Array.length_toList, h2] at h1
        exact h1
      obtain ⟨p, hp⟩ : ∃ p, L[i]? = some p := ⟨_, List.getElem?_eq_getElem il⟩
      have pm : p ∈ L := List.mem_of_getElem? hp
      obtain ⟨bx, ex⟩ := gx.1
      obtain ⟨bp, ep2⟩ := (R.good p pm).1
      have live : t.slot (way t.mask H (c + q)) = .live i := slot_live R.ris hi
      have go : wpAny (model P w) A (searchRest a x.1 H true f es t (way t.mask H (c + q)) i (stepAt t H (c + (q + 1)))) Q E s := by
        unfold searchRest
        rw [R.item hp]
        dsimp only
        have hx' := hx
        have hp' := R.els p pm
        rw [ex] at hx' ⊢
        rw [ep2] at hp' ⊢
        refine wpAny_bind (wpAny_holding ((nestedKind P w).eqBool (x := p.2) (y := x.2) (show A.units + 8 < cLine by omega) ⟨hp', (R.good p pm).2⟩ ⟨hx', gx.2⟩ ?_))
        refine wpAny_bind (wpAny_setState_of ho hd R.fit ?_)
        dsimp only
        by_cases same : p.2 = x.2
        · exact wp_if_pos (by simp [same]) (wpAny_pure (yes (List.mem_map.mpr ⟨p, pm, same⟩)))
        · refine wp_if_neg (by simp [same]) ?_
          try refine wpAny_bind (wpAny_pure ?_)
          rw [sameMem]
          dsimp only
          have hit := R.item hp
          rw [ep2] at hit
          simp only [if_true, live, hit]
          refine wpAny_bind (wpAny_isSame_ref_self (wpAny_bind (wpAny_pure ?_)))
          simp only [if_true]
          refine wp_if_neg (by simp [same]) ?_
          rw [← ex]
          refine ih (c + (q + 1)) _ rfl (by omega) (by omega) fun i0 p0 h0 k0 => ?_
          obtain ⟨c', g1, g2, g3⟩ := ahead i0 p0 h0 k0
          refine ⟨c', ?_, g2, g3⟩
          have n1 : ¬ c' < c + q := fun z => never q i0 p0 none_ h0 k0 c' g1 g3 z
          have n2 : c' ≠ c + q := fun z => by
            rw [z] at g3
            have l2 := slot_live R.ris g3
            rw [live] at l2
            injection l2 with l2
            rw [← l2, hp] at h0
            exact same ((congrArg Prod.snd (Option.some.inj h0)).trans k0)
          omega
      by_cases hl : t.led = true
      · refine wp_if_neg (by simp [hl]) ?_
        try refine wpAny_bind (wpAny_pure ?_)
        exact go
      · refine wp_if_pos (by simp [hl]) ?_
        refine wpAny_bind (unseen hx gx (fun y hy => ?_) ?_)
        · obtain ⟨e, he, rfl⟩ := List.mem_map.mp hy
          have he2 : e ∈ es.toList := by
            have z : e ∈ es ∧ e.1 = H := by simpa using he
            simpa using z.1
          rw [R.rows] at he2
          obtain ⟨p2, m2, rfl⟩ := List.mem_map.mp he2
          exact ⟨p2, rfl, R.good p2 m2, R.els p2 m2⟩
        · refine wp_if_neg (by decide) ?_
          try refine wpAny_bind (wpAny_pure ?_)
          exact go
    · have ans' : t.probe (fun i => (es[i]?.map (·.1)).getD 0) H (stand.getD (t.probeStart H)) = some (.empty (way t.mask H K) none) := by
        have e2 := at_ (K - c)
        rw [show c + (K - c) = K by omega] at e2
        rw [est, ← e2]
        exact ans
      rw [ans']
      dsimp only
      refine wpAny_pure (no fun m => ?_)
      obtain ⟨p0, m0, k0⟩ := List.mem_map.mp m
      obtain ⟨i0, l0, e0⟩ := List.getElem_of_mem m0
      have h0 : L[i0]? = some p0 := by rw [List.getElem?_eq_getElem l0, e0]
      obtain ⟨c', g1, g2, g3⟩ := ahead i0 p0 h0 k0
      exact never (K - c) i0 p0 none_ h0 k0 c' g1 g3 (by omega)
theorem seek_all (R : TupAt w s.heap a L es ep t) {x : El} (gx : TupEl x) (hx : NestedIs s.heap x.2 x.1) (hu : A.units + 12 < cLine) {Q : SetFound → Shared → Prop}
    (yes : x.2 ∈ L.map (·.2) → Q (.there none) s)
    (no : ∀ K, x.2 ∉ L.map (·.2) → way t.mask (x.2.hash w) K ∉ t.place.toList → (∀ c, c < K → way t.mask (x.2.hash w) c ∈ t.place.toList) → Q (.free (way t.mask (x.2.hash w) K) false) s) :
    wpAny (model P w) A (setSearch a x.1 (x.2.hash w) true) Q E s := by
  have rm := R.room
  obtain ⟨K, k1, k2, k3⟩ := R.tab.first (by unfold hashesOf; rw [List.length_map]; omega) (x.2.hash w)
  have few : 10 * SetTable.turns t.mask ≤ 1420 := by
    unfold SetTable.turns
    rcases R.tab.mok with e | e | e <;> omega
  unfold setSearch
  refine seek R gx hx hu k1 k2 k3 yes (fun z => no K z k2 k3) 100000 0 none rfl (Nat.zero_le _) (by omega) fun i p hp hk => ?_
  have hi : (hashesOf w L)[i]? = some (x.2.hash w) := by
    unfold hashesOf
    rw [List.getElem?_map, hp, ← hk]
    rfl
  have il : i < t.place.toList.length := by
    have h1 := (List.getElem?_eq_some_iff.mp hi).1
    rw [Array.length_toList, R.tab.sz]
    exact h1
  obtain ⟨c, hc, e⟩ := R.tab.before k2 hi (List.getElem?_eq_getElem il)
  exact ⟨c, Nat.zero_le _, hc, by rw [List.getElem?_eq_getElem il, e]⟩
/-! ### the table laid anew -/
theorem ents_put (L : List El) (p : Nat) (x : El) : entsOf w (L.take p ++ x :: L.drop p) = (entsOf w L).take p ++ (x.2.hash w, x.1) :: (entsOf w L).drop p := by
  unfold entsOf
  rw [List.map_append, List.map_cons, List.map_take, List.map_drop]
theorem hashes_put (L : List El) (p : Nat) (x : El) : hashesOf w (L.take p ++ x :: L.drop p) = (hashesOf w L).take p ++ x.2.hash w :: (hashesOf w L).drop p := by
  unfold hashesOf
  rw [List.map_append, List.map_cons, List.map_take, List.map_drop]
theorem filterMap_idx {α : Type} (L : List α) : (List.range L.length).filterMap (fun i => L[i]?) = L := List.filterMap_getElem?_range_length L
theorem ordered (L : List El) (es : Array (Int × Value)) (order : Array Nat) (hr : es.toList = entsOf w L) (hp : order.toList.Perm (List.range L.length)) :
    ∃ L2 : List El, (order.filterMap (es[·]?)).toList = entsOf w L2 ∧ L2.Perm L ∧ hashesOf w L2 = order.toList.map fun i => (es.map (·.1)).getD i 0 := by
  refine ⟨order.toList.filterMap fun i => L[i]?, ?_, ?_, ?_⟩
  · have key : ∀ l : List Nat, l.filterMap (fun i => es[i]?) = entsOf w (l.filterMap fun i => L[i]?) := by
      intro l
      have e : ∀ i : Nat, es[i]? = (L[i]?).map fun p => (p.2.hash w, p.1) := fun i => by
        rw [← Array.getElem?_toList, hr, entsOf, List.getElem?_map]
      unfold entsOf
      rw [List.map_filterMap]
      exact congrArg (fun g => l.filterMap g) (funext e)
    first | (rw [Array.toList_filterMap]; exact key _) | simpa using key order.toList
  · have h1 := hp.filterMap (fun i => L[i]?)
    rw [filterMap_idx] at h1
    exact h1
  · have key : ∀ l : List Nat, (∀ i ∈ l, i < L.length) → hashesOf w (l.filterMap fun i => L[i]?) = l.map fun i => (es.map (·.1)).getD i 0 := by
      intro l
      induction l with
      | nil => exact fun _ => rfl
      | cons i l ih =>
        intro h
        have hi := h i List.mem_cons_self
        have e : (es.map (·.1)).getD i 0 = (L[i]).2.hash w := by
          have e1 : es[i]? = some ((L[i]).2.hash w, (L[i]).1) := by
            rw [← Array.getElem?_toList, hr, entsOf, List.getElem?_map, List.getElem?_eq_getElem hi]
            rfl
          have e2 : (es.map (·.1))[i]? = some ((L[i]).2.hash w) := by
            rw [Array.getElem?_map, e1]
            rfl
          rw [Array.getD_eq_getD_getElem?, e2]
          rfl
        rw [List.filterMap_cons_some (List.getElem?_eq_getElem hi), List.map_cons, e, ← ih fun j m => h j (List.mem_cons_of_mem _ m)]
        rfl
    exact key _ fun i m => List.mem_range.mp (hp.mem_iff.mp m)
theorem relay {o : Obj} (ho : s.heap.get? a = some o) (hex : o.ExactSet) (hd : o.data = .set es ep t) (hr : es.toList = entsOf w L) (hsz : t.place.size = es.size) (hdm : t.dummies = #[]) (hfl : es.size ≤ t.mask)
    (nd : (L.map (·.2)).Nodup) (els : ∀ p ∈ L, NestedIs s.heap p.2 p.1) (good : ∀ p ∈ L, TupEl p) (ld : w.params.followText "set-order" = true ∨ t.led = true) (few : L.length < 64) {wanted M : Nat}
    (hw : SetTable.sizeAbove wanted - 1 = M) (hM : MaskOk M) (hw2 : SetTable.sizeAbove wanted ≤ 128) (hn : L.length * 5 < M * 3) {Q : Unit → Shared → Prop}
    (hQ : ∀ h' L', Heap.SameBut a s.heap h' → TupSet w h' a L' → L'.Perm L → Q () { s with heap := h' }) : wpAny (model P w) A (setRelay a wanted) Q E s := by
  have hl : es.size = L.length := entsOf_len hr
  have fits : t.fits es.size = true := by
    unfold SetTable.fits SetTable.fill
    rw [hdm, Bool.and_eq_true, beq_iff_eq, decide_eq_true_eq]
    exact ⟨hsz, by rw [hsz]; exact hfl⟩
  obtain ⟨t', order, e, hp, T, em, el, _, ed⟩ := relaid_ok t (hs := es.map (·.1)) (wanted := wanted) hw hM (by rw [Array.size_map, hl]; omega)
  rw [Array.size_map, hl] at hp
  obtain ⟨L2, r1, r2, r3⟩ := ordered L es order hr hp
  rw [← r3] at T
  have len2 : (order.filterMap (es[·]?)).size = es.size := by rw [entsOf_len r1, r2.length_eq, hl]
  rw [setRelay_eq]
  refine wpAny_bind (wpAny_setState_of ho hd fits ?_)
  dsimp only
  refine wp_if_neg (by rw [sizeLine_eq]; omega) ?_
  try refine wpAny_bind (wpAny_pure ?_)
  rw [e]
  dsimp only
  refine wpAny_bind (wp_if_neg (by rw [len2]; simp) ?_)
  try refine wpAny_bind (wpAny_pure ?_)
  refine wpAny_pure ?_
  dsimp only
  refine wpAny_storeSet_of ho hd ?_ (by rw [len2, hl, sizeLine_eq]; omega)
  have sb : Heap.SameBut a s.heap (s.heap.update a (Obj.putSet (order.filterMap (es[·]?)) t')) := .update ..
  refine hQ _ L2 sb ⟨order.filterMap (es[·]?), ep + 1, t', ⟨⟨_, store_at ho hd, hex, rfl⟩, r1, (r2.map (·.2)).nodup_iff.mpr nd, fun p m => nested_but ho hd sb (els p (r2.mem_iff.mp m)), el.symm ▸ ld, T.ris, ?_, ?_⟩, fun p m => good p (r2.mem_iff.mp m), T, ?_⟩ r2
  · have z := T.sz
    unfold hashesOf at z
    rw [List.length_map] at z
    unfold SetTable.fits SetTable.fill
    rw [ed, Bool.and_eq_true, beq_iff_eq, decide_eq_true_eq, entsOf_len r1]
    refine ⟨z, ?_⟩
    show t'.place.size + 0 ≤ t'.mask
    rw [z, em, r2.length_eq]
    omega
  · rw [r2.length_eq]
    exact Nat.lt_of_lt_of_le few (by decide)
  · rw [r2.length_eq, em]
    exact hn
theorem adds_tup : Adds P w TupEl (TupSet w) 64 := by
  intro A E s a L x Q hu hT gx hx hroom hQ
  obtain ⟨es, ep, t, R⟩ := hT
  obtain ⟨o, ho, hex, hd⟩ := R.ob
  have hl := R.size
  have rm := R.room
  obtain ⟨bx, ex⟩ := gx.1
  unfold setAddHashed
  refine wpAny_holding ?_
  rw [show (100000 : Nat) = 99999 + 1 from rfl, setAddHashedIn_succ]
  refine wpAny_bind (wpAny_setState_of ho hd R.fit ?_)
  dsimp only
  refine wp_if_neg (by rw [ex]; simp [byScan, Value.scannable]) ?_
  try refine wpAny_bind (wpAny_pure ?_)
  refine wpAny_bind (seek_all R gx hx hu (fun m => ?_) fun K nm k2 k3 => ?_)
  · dsimp only
    exact wpAny_pure (hQ false s.heap L (.refl a s.heap) ⟨es, ep, t, R⟩ (fun _ => rfl) fun z => (z m).elim)
  · dsimp only
    refine wpAny_bind (wpAny_setState_of ho hd R.fit ?_)
    dsimp only
    obtain ⟨q1, q2, q3, q4, q5, q6, q7, q8, q9⟩ := R.tab.put k2 k3
    revert q1 q2 q3 q4 q5 q6 q7 q8 q9
    generalize t.put (way t.mask (x.2.hash w) K) = pt
    obtain ⟨t1, p⟩ := pt
    intro q1 q2 q3 q4 q5 q6 q7 q8 q9
    dsimp only at q1 q3 q4 q5 q6 q7 q8 q9 ⊢
    subst q1
    rw [← hashes_put] at q3
    have perm := put_perm L (SetTable.below t.place (way t.mask (x.2.hash w) K)) x
    have rows1 : (SetTable.insertAt es (SetTable.below t.place (way t.mask (x.2.hash w) K)) (x.2.hash w, x.1)).toList = entsOf w (L.take (SetTable.below t.place (way t.mask (x.2.hash w) K)) ++ x :: L.drop (SetTable.below t.place (way t.mask (x.2.hash w) K))) := by
      rw [SetTable.toList_insertAt, ents_put, R.rows]
    revert q3 perm rows1
    generalize L.take (SetTable.below t.place (way t.mask (x.2.hash w) K)) ++ x :: L.drop (SetTable.below t.place (way t.mask (x.2.hash w) K)) = L1
    generalize SetTable.insertAt es (SetTable.below t.place (way t.mask (x.2.hash w) K)) (x.2.hash w, x.1) = es1
    intro q3 perm rows1
    have hlen : L1.length = L.length + 1 := perm.length_eq
    have hes : es1.size = L.length + 1 := by rw [entsOf_len rows1, hlen]
    have nd1 : (L1.map (·.2)).Nodup := (perm.map (·.2)).nodup_iff.mpr (List.nodup_cons.mpr ⟨nm, R.nd⟩)
    have good1 : ∀ p ∈ L1, TupEl p := fun p m => by
      rcases List.mem_cons.mp (perm.mem_iff.mp m) with rfl | m
      · exact gx
      · exact R.good p m
    have els1 : ∀ p ∈ L1, NestedIs s.heap p.2 p.1 := fun p m => by
      rcases List.mem_cons.mp (perm.mem_iff.mp m) with rfl | m
      · exact hx
      · exact R.els p m
    -- behind the question of the hash's kind, for whatever word of plainness
    have rest : ∀ t2 : SetTable, t2.mask = t1.mask → t2.led = t1.led → t2.place = t1.place → t2.dummies = t1.dummies → t2.tooFull = t1.tooFull →
        wpAny (model P w) A (do
          storeSet a es1 t2
          if (!false && t2.tooFull) = true then do
            setRelay a (SetTable.grown (es.size + 1))
            return true
          else return true) Q E s := by
      intro t2 m1 m2 m3 m4 m5
      have T2 : TabOk t2 (hashesOf w L1) := ⟨by rw [m3]; exact q3.ris, by rw [m4]; exact q3.dm, by rw [m3]; exact q3.sz, by rw [m1]; exact q3.mok, by rw [m3, m1]; exact q3.bd, by rw [m3, m1]; exact q3.reach⟩
      have size2 : t2.place.size = es1.size := by
        have z := T2.sz
        unfold hashesOf at z
        rw [List.length_map, hlen] at z
        rw [z, hes]
      have led2 : w.params.followText "set-order" = true ∨ t2.led = true := by rw [m2, q5]; exact R.led
      refine wpAny_bind (wpAny_storeSet_of ho hd ?_ (by rw [hes, sizeLine_eq]; omega))
      have sb : Heap.SameBut a s.heap (s.heap.update a (Obj.putSet es1 t2)) := .update ..
      have ho1 := store_at (es' := es1) (t' := t2) ho hd
      have els2 : ∀ p ∈ L1, NestedIs (s.heap.update a (Obj.putSet es1 t2)) p.2 p.1 := fun p m => nested_but ho hd sb (els1 p m)
      revert sb ho1 els2
      generalize s.heap.update a (Obj.putSet es1 t2) = h1
      intro sb ho1 els2
      have full : t2.tooFull = decide ((L.length + 1) * 5 ≥ t.mask * 3) := by
        rw [m5]
        unfold SetTable.tooFull
        rw [q9, q4]
        unfold hashesOf
        rw [List.length_map]
      have fits2 : t2.mask = t.mask := m1.trans q4
      by_cases c : t2.tooFull = true
      · rw [if_pos (by rw [c]; rfl)]
        rw [full, decide_eq_true_eq] at c
        rw [hl]
        have two : (t.mask = 7 ∧ L.length = 4) ∨ (t.mask = 31 ∧ L.length = 18) := by
          rcases R.tab.mok with e | e | e <;> rw [e] at c rm <;> omega
        have small : es1.size ≤ t2.mask := by rw [hes, fits2]; omega
        have go : ∀ M, SetTable.sizeAbove (SetTable.grown (L.length + 1)) - 1 = M → MaskOk M → SetTable.sizeAbove (SetTable.grown (L.length + 1)) ≤ 128 → (L.length + 1) * 5 < M * 3 →
            wpAny (model P w) A (do setRelay a (SetTable.grown (L.length + 1)); return true) Q E { s with heap := h1 } := fun M g1 g2 g3 g4 =>
          wpAny_bind (relay (s := { s with heap := h1 }) ho1 hex rfl rows1 size2 T2.dm small nd1 els2 good1 led2 (by rw [hlen]; exact hroom) g1 g2 g3 (by rw [hlen]; exact g4) fun h2 L2 sb2 S2 p2 =>
            wpAny_pure (hQ true h2 L2 (sb.trans sb2) S2 (fun z => (nm z).elim) fun _ => p2.trans perm))
        rcases two with ⟨_, e⟩ | ⟨_, e⟩
        · exact go 31 (by rw [e, size_20]) (.inr (.inl rfl)) (by rw [e, size_20]; decide) (by omega)
        · exact go 127 (by rw [e, size_76]) (.inr (.inr rfl)) (by rw [e, size_76]; decide) (by omega)
      · rw [if_neg (by simp [c])]
        rw [full, decide_eq_true_eq] at c
        refine wpAny_pure (hQ true h1 L1 sb ⟨es1, ep + 1, t2, ⟨⟨_, ho1, hex, rfl⟩, rows1, nd1, els2, led2, T2.ris, ?_, ?_⟩, good1, T2, ?_⟩ (fun z => (nm z).elim) fun _ => perm)
        · unfold SetTable.fits SetTable.fill
          rw [T2.dm, Bool.and_eq_true, beq_iff_eq, decide_eq_true_eq]
          refine ⟨size2, ?_⟩
          show t2.place.size + 0 ≤ t2.mask
          rw [size2, hes, fits2]
          omega
        · rw [hlen]
          exact Nat.lt_trans hroom (by decide)
        · rw [hlen, fits2]
          omega
    by_cases pl : t1.plain = true
    · first
        | (refine wpAny_bind ?_; refine wp_if_pos pl ?_; refine byValue_some _ _ _ _ _ _ _ hx fun b => ?_)
        | refine wp_if_pos pl (wpAny_bind (byValue_some _ _ _ _ _ _ _ hx fun b => ?_))
      cases b
      · exact rest { t1 with plain := false } rfl rfl rfl rfl rfl
      · exact rest t1 rfl rfl rfl rfl rfl
    · first
        | (refine wpAny_bind ?_; refine wp_if_neg pl ?_; refine wpAny_pure ?_)
        | refine wp_if_neg pl (wpAny_bind (wpAny_pure ?_))
        | refine wp_if_neg pl ?_
      exact rest t1 rfl rfl rfl rfl rfl
end
end Pk
end
section
set_option Elab.async false
set_option linter.all false
set_option maxRecDepth 100000
set_option maxHeartbeats 4000000
/-! set(xs), sorted and len of it. -/
namespace Pk
open PySem L2 PyProof.Rows

abbrev newSet (w : World) : Obj := { cls := .type "set", dict := none, data := .set #[] 0 (.fresh 0 0 (!w.params.followText "set-order")) }
/-- a kind of sets -/
structure SetKit (P : Program) (w : World) (good : El → Prop) (T : Heap → Addr → List El → Prop) (most : Nat) : Prop where
  add : Adds P w good T most
  stay : ∀ {h h' : Heap} {a : Addr} {L : List El}, T h a L → (∀ o, h.get? a = some o → h'.get? a = some o) → (∀ p ∈ L, NestedIs h' p.2 p.1) → T h' a L
  laid : ∀ {h : Heap} {a : Addr} {L : List El}, T h a L → ∃ es ep t, Laid w h a L es ep t
  fresh : ∀ {h : Heap} {a : Addr}, h.get? a = some (newSet w) → T h a []
theorem led_new (w : World) : w.params.followText "set-order" = true ∨ (!w.params.followText "set-order") = true := by
  cases w.params.followText "set-order" <;> simp
theorem Laid.at {w : World} {h h' : Heap} {a : Addr} {L : List El} {es : Array (Int × Value)} {ep : Nat} {t : SetTable} (R : Laid w h a L es ep t) (k : ∀ o, h.get? a = some o → h'.get? a = some o) (e : ∀ p ∈ L, NestedIs h' p.2 p.1) : Laid w h' a L es ep t :=
  let ⟨o, ho, r⟩ := R.ob
  ⟨⟨o, k o ho, r⟩, R.rows, R.nd, e, R.led, R.ris, R.fit, R.less⟩
theorem Laid.new {w : World} {h : Heap} {a : Addr} (ho : h.get? a = some (newSet w)) : Laid w h a [] #[] 0 (.fresh 0 0 (!w.params.followText "set-order")) :=
  ⟨⟨_, ho, ⟨rfl, rfl, rfl⟩, rfl⟩, rfl, List.nodup_nil, fun p m => (by cases m), led_new w, List.Pairwise.nil, rfl, by decide⟩
theorem kit_txt {P : Program} {w : World} : SetKit P w TxtEl (TxtSet w) scanBound where
  add := adds_txt
  stay := fun ⟨g, es, ep, t, R⟩ k e => ⟨g, es, ep, t, R.at k e⟩
  laid := fun ⟨_, r⟩ => r
  fresh := fun ho => ⟨fun p m => (by cases m), _, _, _, Laid.new ho⟩
theorem kit_tup {P : Program} {w : World} : SetKit P w TupEl (TupSet w) 64 where
  add := adds_tup
  stay := fun ⟨es, ep, t, R⟩ k e => ⟨es, ep, t, R.toLaid.at k e, R.good, R.tab, R.room⟩
  laid := fun ⟨es, ep, t, R⟩ => ⟨es, ep, t, R.toLaid⟩
  fresh := fun ho => ⟨_, _, _, Laid.new ho, fun p m => (by cases m), ⟨List.Pairwise.nil, rfl, rfl, .inl rfl, fun x m => (by cases m), fun i h j m => (by simp [hashesOf] at m)⟩, by show 0 * 5 < 7 * 3; decide⟩
/-- what is in after i items -/
structure Had (ks : List El) (i : Nat) (L : List El) : Prop where
  sub : ∀ p ∈ L, p ∈ ks.take i
  all : ∀ p ∈ ks.take i, p.2 ∈ L.map (·.2)
  len : L.length ≤ i
theorem Had.next {ks L L' : List El} {i : Nat} {x : El} (g : Had ks i L) (h : ks[i]? = some x) (c1 : x.2 ∈ L.map (·.2) → L' = L) (c2 : x.2 ∉ L.map (·.2) → L'.Perm (x :: L)) : Had ks (i + 1) L' := by
  have tk : ks.take (i + 1) = ks.take i ++ [x] := by
    rw [List.take_succ, h]
    rfl
  have both : (L' = L ∧ x.2 ∈ L.map (·.2)) ∨ L'.Perm (x :: L) := by
    rcases Classical.em (x.2 ∈ L.map (·.2)) with c | c
    · exact .inl ⟨c1 c, c⟩
    · exact .inr (c2 c)
  constructor
  · intro p m
    rw [tk, List.mem_append]
    rcases both with ⟨rfl, _⟩ | pm
    · exact .inl (g.sub p m)
    · rcases List.mem_cons.mp (pm.mem_iff.mp m) with rfl | m
      · exact .inr List.mem_cons_self
      · exact .inl (g.sub p m)
  · intro p m
    rw [tk, List.mem_append] at m
    rcases both with ⟨rfl, c⟩ | pm
    · rcases m with m | m
      · exact g.all p m
      · rw [List.mem_singleton.mp m]
        exact c
    · refine (pm.map (·.2)).mem_iff.mpr ?_
      rcases m with m | m
      · exact List.mem_cons_of_mem _ (g.all p m)
      · rw [List.mem_singleton.mp m]
        exact List.mem_cons_self
  · rcases both with ⟨rfl, _⟩ | pm
    · exact Nat.le_succ_of_le g.len
    · rw [pm.length_eq]
      exact Nat.succ_le_succ g.len

section
variable {P : Program} {w : World} {A : Around} {good : El → Prop} {T : Heap → Addr → List El → Prop} {most : Nat}
theorem nested_up {h h' : Heap} (k : ∀ b o, h.get? b = some o → h'.get? b = some o) {p : El} (x : NestedIs h p.2 p.1) : NestedIs h' p.2 p.1 := NestedIs.at (fun b o _ _ e _ => k b o e) p.2 p.1 x
theorem fill_loop (K : SetKit P w good T most) {I S l : Addr} {n : Nat} {Pv : Nat → Value → Prop} {St : Nat → Heap → Prop} {R : Result → Shared → Prop} (W : Walks P w A.in1 I [I, l] [I] n Pv St) (hS : S ∉ [I, l]) (ks : List El) (hn : n = ks.length) (few : ks.length < most)
    (hv : ∀ i v, Pv i v → ∃ p, ks[i]? = some p ∧ v = p.1) (h0 : Heap) (hk : ∀ p ∈ ks, good p ∧ NestedIs h0 p.2 p.1 ∧ p.2.depth ≤ 8) (nS : h0.get? S = none) (nI : h0.get? I = none) (hu : A.units + 20 < cLine) :
    ∀ (k i : Nat) (s : Shared) (L : List El), n - i = k → i ≤ n → St i s.heap → (∀ b o, h0.get? b = some o → s.heap.get? b = some o) → T s.heap S L → Had ks i L →
      (∀ h' tk L', T h' S L' → Had ks n L' → (∀ b o, h0.get? b = some o → h'.get? b = some o) → R (.ok (.ret .none)) { s with heap := h', toks := tk }) →
      codeAny (model P w) A (.builtin "set.update.loop" ⟨[.ref S, .ref I], []⟩) R s := by
  have keep : ∀ {s : Shared} {h' : Heap}, (∀ b o, b ∉ [I] → s.heap.get? b = some o → h'.get? b = some o) → (∀ b o, h0.get? b = some o → s.heap.get? b = some o) → ∀ b o, h0.get? b = some o → h'.get? b = some o := fun hm hp b o e =>
    hm b o (fun q => by rw [List.mem_singleton.mp q, nI] at e; cases e) (hp b o e)
  have nSI : S ∉ [I] := fun q => hS (List.mem_cons.mpr (.inl (List.mem_singleton.mp q)))
  intro k
  induction k with
  | zero =>
    intro i s L hi hle st kp hT g hR
    obtain rfl : i = n := by omega
    refine codeAny_builtin F.entry_set_update_loop ?_
    rw [Around.under_plainId F.plain_set_update_loop _]
    show wpAny _ A.in1 (pyNext (.ref I) >>= _) _ _ s
    refine wpAny_bind (W.done s _ _ st fun h' tk hm => ?_)
    have kp' := keep hm kp
    show wpAny _ A.in1 (ret Value.none) _ _ _
    exact wpAny_pure (hR h' tk L (K.stay hT (fun o e => hm S o nSI e) fun p m => nested_up kp' (hk p (List.mem_of_mem_take (g.sub p m))).2.1) g kp')
  | succ k ih =>
    intro i s L hi hle st kp hT g hR
    have lt : i < n := by omega
    refine codeAny_builtin F.entry_set_update_loop ?_
    rw [Around.under_plainId F.plain_set_update_loop _]
    show wpAny _ A.in1 (pyNext (.ref I) >>= _) _ _ s
    refine wpAny_bind (W.item i s _ _ lt st fun v h1 tk hP st1 hm => ?_)
    obtain ⟨p, hp, rfl⟩ := hv i v hP
    have kp1 := keep hm kp
    obtain ⟨gp, xp, dp⟩ := hk p (List.mem_of_getElem? hp)
    have T1 : T h1 S L := K.stay hT (fun o e => hm S o nSI e) fun q m => nested_up kp1 (hk q (List.mem_of_mem_take (g.sub q m))).2.1
    show wpAny _ A.in1 (holding [p.1] (setAdd S p.1) >>= _) _ _ _
    refine wpAny_bind (wpAny_holding ?_)
    unfold setAdd
    refine wpAny_holding ?_
    refine wpAny_bind (pyHash_key p.2 p.1 A.in1 { s with heap := h1, toks := tk } _ (nested_up kp1 xp) (by show A.units + 1 + p.2.depth < cLine; omega) ?_)
    refine K.add (s := { s with heap := h1, toks := tk + p.2.draws }) (by show A.units + 1 + 12 < cLine; omega) T1 gp (nested_up kp1 xp) (by have := g.len; omega) fun b h2 L' sb T2 c1 c2 => ?_
    have kp2 : ∀ b o, h0.get? b = some o → h2.get? b = some o := fun b o e => (sb.2 b fun q => by rw [q, nS] at e; cases e).trans (kp1 b o e)
    refine wpAny_pure ⟨plainId_quiet F.plain_set_update_loop _, ih (i + 1) { s with heap := h2, toks := tk + p.2.draws } L' (by omega) lt (W.frame (i + 1) h1 h2 st1 fun b m o e => (sb.2 b fun q => hS (q ▸ m)).trans e) kp2 T2 (g.next hp c1 c2) fun h' tk' L2 => hR h' tk' L2⟩
/-- set(xs) of a list -/
theorem set_of_list (K : SetKit P w good T most) {E : Value → Shared → Prop} {s : Shared} {l : Addr} {items : Array Value} {ks : List El} {Q : Value → Shared → Prop} (calm : A.handled = none) (hl : s.heap.IsList l items) (hit : items.toList = ks.map (·.1))
    (hk : ∀ p ∈ ks, good p ∧ NestedIs s.heap p.2 p.1 ∧ p.2.depth ≤ 8) (few : ks.length < most) (hu : A.units + 40 < cLine)
    (hQ : ∀ h' tk L, T h' s.heap.objs.size L → Had ks ks.length L → (∀ b o, s.heap.get? b = some o → h'.get? b = some o) → Q (.ref s.heap.objs.size) { s with heap := h', toks := tk }) :
    wpAny (model P w) A (call (.type "set") [.ref l]) Q E s := by
  have nz : ∀ b, s.heap.objs.size ≤ b → s.heap.get? b = none := fun b hb => by
    cases q : s.heap.get? b with
    | none => rfl
    | some o => exact absurd (Nat.lt_of_lt_of_le (Heap.lt_size q) hb) (Nat.lt_irrefl _)
  have sz : items.size = ks.length := by rw [← Array.length_toList, hit, List.length_map]
  obtain ⟨c, tl, hmro⟩ := F.called_set.mro
  have f1 := F.called_set.made
  have f2 := F.called_set.sub
  have f3 := F.called_set.notType
  have f4 := F.called_set.canCreate
  have f5 := F.typeCall_set_1 (.ref l)
  refine wpAny_call (codeAny_of_tree ?_)
  show wpAny _ _ (callAny (.type "set") _) _ _ _
  refine wpAny_pure ⟨Code.quiet_builtin _ (by decide +kernel), codeAny_builtin F.entry_type_call ?_⟩
  rw [Around.under_plain (weight_type_call_type "set" [Value.ref l] []) rfl]
  repeat (any_goals (first | assumption | wp_step))
  refine codeAny_mono (code_set_led1 (.ref l) (E := E) (Q₁ := fun obj s₁ => obj = .ref s.heap.objs.size ∧ s₁ = { s with heap := s.heap.push (newSet w) }) ⟨rfl, rfl⟩) fun r s₁ hr => ?_
  cases r with
  | error e => exact hr
  | ok fl =>
    cases fl with
    | ret obj =>
      obtain ⟨rfl, rfl⟩ := hr
      have hS : (s.heap.push (newSet w)).get? s.heap.objs.size = some (newSet w) := Heap.get?_push_size _ rfl
      have tS : Shared.TypeIs { s with heap := s.heap.push (newSet w) } (.ref s.heap.objs.size) "set" := ⟨_, hS, rfl⟩
      have f6 := F.called_set.init.lookup
      have f7 := F.called_set.init.bind (.ref s.heap.objs.size)
      repeat (any_goals (first | assumption | wp_step))
      refine codeAny_mono (codeAny_call_builtin (R := wants (fun r s₂ => r = .none ∧ ∃ h' tk L, s₂ = { s with heap := h', toks := tk } ∧ T h' s.heap.objs.size L ∧ Had ks ks.length L ∧ ∀ b o, s.heap.get? b = some o → h'.get? b = some o) E)
        F.called_set.init.plain F.entry_set_init (check_set_init_1 tS ?_)) fun r₂ s₂ hr₂ => ?_
      · obtain ⟨ol, hol, hcl, nl, hdl⟩ := hl
        obtain ⟨ocls, odict, odata, oslots⟩ := ol
        dsimp only at hcl hdl
        subst hcl hdl
        have hol' : (s.heap.push (newSet w)).get? l = some { cls := .type "list", dict := odict, data := .seq items nl, slots := oslots } := Heap.get?_push_of_some _ hol
        have g1 := F.sub_list_set
        have g2 := F.sub_list_frozenset
        have g3 : (Value.type "list" == Value.type "dict") = false := by decide
        have hl1 : (s.heap.push (newSet w)).IsList l items := ⟨_, hol', rfl, nl, rfl⟩
        unfold Builtin.«set.__init__» noKeywords Builtin.Frozenset.updateFrom
        generalize hPI : pyIter = PI
        wp_walk
        subst hPI
        refine wpAny_pyIter_list hl1 ?_
        refine wpAny_bind (wpAny_runValue ?_)
        have ls : l < s.heap.objs.size := Heap.lt_size hol
        have zI : (s.heap.push (newSet w)).objs.size = s.heap.objs.size + 1 := Heap.size_push ..
        have c3 : A.in1.in1.in1.handled = none := by simp [calm]
        refine fill_loop K (Walks.list c3 (s.heap.push (newSet w)).objs.size l (by rw [zI]; exact Nat.ne_of_lt (Nat.lt_succ_of_lt ls)) items) (S := s.heap.objs.size) (by rw [zI]; simp only [List.mem_cons, List.not_mem_nil, or_false, not_or]; exact ⟨Nat.ne_of_lt (Nat.lt_succ_self _), Nat.ne_of_gt ls⟩) ks sz few (fun i v hv => ?_) s.heap hk (nz _ (Nat.le_refl _)) (nz _ (by rw [zI]; exact Nat.le_succ _)) (by show A.units + 1 + 1 + 20 < cLine; omega)
          (items.size - 0) 0 _ [] rfl (Nat.zero_le _) ⟨⟨_, Heap.get?_push_size _ rfl, rfl, rfl⟩, hl1.push _⟩ (fun b o e => Heap.get?_push_of_some _ (Heap.get?_push_of_some _ e)) (K.fresh (Heap.get?_push_of_some _ hS)) ⟨fun p m => (by cases m), fun p m => (by simp at m), Nat.le_refl _⟩ fun h' tk L T' g' kp => ?_
        · have q : items.toList[i]? = some v := by rw [Array.getElem?_toList]; exact hv
          rw [hit, List.getElem?_map] at q
          cases e : ks[i]? with
          | none => rw [e] at q; cases q
          | some p =>
            rw [e] at q
            exact ⟨p, rfl, (Option.some.inj q).symm⟩
        · show wpAny _ _ _ _ _ _
          refine wpAny_pure ?_
          show wpAny _ _ (ret Value.none) _ _ _
          rw [sz] at g'
          exact wpAny_pure ⟨rfl, h', tk, L, rfl, T', g', kp⟩
      · cases r₂ with
        | error e => exact hr₂
        | ok fl₂ =>
          cases fl₂ with
          | ret r =>
            obtain ⟨rfl, h', tk, L, rfl, T', g', kp⟩ := hr₂
            repeat (any_goals (first | assumption | wp_step))
            exact hQ _ _ _ T' g' kp
          | _ => exact hr₂.elim
    | _ => exact hr.elim
/-- set(xs) of a tuple -/
theorem set_of_tuple (K : SetKit P w good T most) {E : Value → Shared → Prop} {s : Shared} {l : Addr} {items : Array Value} {ks : List El} {Q : Value → Shared → Prop} (calm : A.handled = none) (hl : s.heap.IsTuple l items) (hit : items.toList = ks.map (·.1))
    (hk : ∀ p ∈ ks, good p ∧ NestedIs s.heap p.2 p.1 ∧ p.2.depth ≤ 8) (few : ks.length < most) (hu : A.units + 40 < cLine)
    (hQ : ∀ h' tk L, T h' s.heap.objs.size L → Had ks ks.length L → (∀ b o, s.heap.get? b = some o → h'.get? b = some o) → Q (.ref s.heap.objs.size) { s with heap := h', toks := tk }) :
    wpAny (model P w) A (call (.type "set") [.ref l]) Q E s := by
  have nz : ∀ b, s.heap.objs.size ≤ b → s.heap.get? b = none := fun b hb => by
    cases q : s.heap.get? b with
    | none => rfl
    | some o => exact absurd (Nat.lt_of_lt_of_le (Heap.lt_size q) hb) (Nat.lt_irrefl _)
  have sz : items.size = ks.length := by rw [← Array.length_toList, hit, List.length_map]
  obtain ⟨c, tl, hmro⟩ := F.called_set.mro
  have f1 := F.called_set.made
  have f2 := F.called_set.sub
  have f3 := F.called_set.notType
  have f4 := F.called_set.canCreate
  have f5 := F.typeCall_set_1 (.ref l)
  refine wpAny_call (codeAny_of_tree ?_)
  show wpAny _ _ (callAny (.type "set") _) _ _ _
  refine wpAny_pure ⟨Code.quiet_builtin _ (by decide +kernel), codeAny_builtin F.entry_type_call ?_⟩
  rw [Around.under_plain (weight_type_call_type "set" [Value.ref l] []) rfl]
  repeat (any_goals (first | assumption | wp_step))
  refine codeAny_mono (code_set_led1 (.ref l) (E := E) (Q₁ := fun obj s₁ => obj = .ref s.heap.objs.size ∧ s₁ = { s with heap := s.heap.push (newSet w) }) ⟨rfl, rfl⟩) fun r s₁ hr => ?_
  cases r with
  | error e => exact hr
  | ok fl =>
    cases fl with
    | ret obj =>
      obtain ⟨rfl, rfl⟩ := hr
      have hS : (s.heap.push (newSet w)).get? s.heap.objs.size = some (newSet w) := Heap.get?_push_size _ rfl
      have tS : Shared.TypeIs { s with heap := s.heap.push (newSet w) } (.ref s.heap.objs.size) "set" := ⟨_, hS, rfl⟩
      have f6 := F.called_set.init.lookup
      have f7 := F.called_set.init.bind (.ref s.heap.objs.size)
      repeat (any_goals (first | assumption | wp_step))
      refine codeAny_mono (codeAny_call_builtin (R := wants (fun r s₂ => r = .none ∧ ∃ h' tk L, s₂ = { s with heap := h', toks := tk } ∧ T h' s.heap.objs.size L ∧ Had ks ks.length L ∧ ∀ b o, s.heap.get? b = some o → h'.get? b = some o) E)
        F.called_set.init.plain F.entry_set_init (check_set_init_1 tS ?_)) fun r₂ s₂ hr₂ => ?_
      · obtain ⟨ol, hol, hcl, nl, hdl⟩ := hl
        obtain ⟨ocls, odict, odata, oslots⟩ := ol
        dsimp only at hcl hdl
        subst hcl hdl
        have hol' : (s.heap.push (newSet w)).get? l = some { cls := .type "tuple", dict := odict, data := .seq items nl, slots := oslots } := Heap.get?_push_of_some _ hol
        have g1 := F.sub_tuple_set
        have g2 := F.sub_tuple_frozenset
        have g3 : (Value.type "tuple" == Value.type "dict") = false := by decide
        have hl1 : (s.heap.push (newSet w)).IsTuple l items := ⟨_, hol', rfl, nl, rfl⟩
        unfold Builtin.«set.__init__» noKeywords Builtin.Frozenset.updateFrom
        generalize hPI : pyIter = PI
        wp_walk
        subst hPI
        refine wpAny_pyIter_tuple hl1 ?_
        refine wpAny_bind (wpAny_runValue ?_)
        have ls : l < s.heap.objs.size := Heap.lt_size hol
        have zI : (s.heap.push (newSet w)).objs.size = s.heap.objs.size + 1 := Heap.size_push ..
        have c3 : A.in1.in1.in1.handled = none := by simp [calm]
        refine fill_loop K (Walks.tuple c3 (s.heap.push (newSet w)).objs.size l (by rw [zI]; exact Nat.ne_of_lt (Nat.lt_succ_of_lt ls)) items) (S := s.heap.objs.size) (by rw [zI]; simp only [List.mem_cons, List.not_mem_nil, or_false, not_or]; exact ⟨Nat.ne_of_lt (Nat.lt_succ_self _), Nat.ne_of_gt ls⟩) ks sz few (fun i v hv => ?_) s.heap hk (nz _ (Nat.le_refl _)) (nz _ (by rw [zI]; exact Nat.le_succ _)) (by show A.units + 1 + 1 + 20 < cLine; omega)
          (items.size - 0) 0 _ [] rfl (Nat.zero_le _) ⟨⟨_, Heap.get?_push_size _ rfl, rfl, rfl⟩, hl1.push _⟩ (fun b o e => Heap.get?_push_of_some _ (Heap.get?_push_of_some _ e)) (K.fresh (Heap.get?_push_of_some _ hS)) ⟨fun p m => (by cases m), fun p m => (by simp at m), Nat.le_refl _⟩ fun h' tk L T' g' kp => ?_
        · have q : items.toList[i]? = some v := by rw [Array.getElem?_toList]; exact hv
          rw [hit, List.getElem?_map] at q
          cases e : ks[i]? with
          | none => rw [e] at q; cases q
          | some p =>
            rw [e] at q
            exact ⟨p, rfl, (Option.some.inj q).symm⟩
        · show wpAny _ _ _ _ _ _
          refine wpAny_pure ?_
          show wpAny _ _ (ret Value.none) _ _ _
          rw [sz] at g'
          exact wpAny_pure ⟨rfl, h', tk, L, rfl, T', g', kp⟩
      · cases r₂ with
        | error e => exact hr₂
        | ok fl₂ =>
          cases fl₂ with
          | ret r =>
            obtain ⟨rfl, h', tk, L, rfl, T', g', kp⟩ := hr₂
            repeat (any_goals (first | assumption | wp_step))
            exact hQ _ _ _ T' g' kp
          | _ => exact hr₂.elim
    | _ => exact hr.elim
end
end Pk
end
section
set_option Elab.async false
set_option linter.all false
set_option maxRecDepth 100000
/-! A small language of our own for the defs of a text, and what each of its programs computes over plain data. -/
namespace Pk
open PySem

/-! ### data -/
inductive D where
  | non
  | bl (b : Bool)
  | int (i : Int)
  | str (s : Str)
  | tup (ds : List D)
  | lst (ds : List D)
  | dic (kvs : List (D × D))
  | ins (c : Nat) (fs : List (Nat × D))
  | exc (c : Nat) (fs : List (Nat × D))
  | scr (ns : List Int)
  | fn (x : Str)

/-- a name's value: data, or the cell of an object that may change -/
inductive Val where
  | d (x : D)
  | r (i : Nat)
/-- an object that may change -/
inductive MObj where
  | lst (ds : List D)
  | dic (kvs : List (D × D))
  | ins (c : Nat) (fs : List (Nat × Val))
/-- an expression's value: tmp is a new object that nobody else holds -/
inductive RV where
  | v (x : Val)
  | tmp (o : MObj)
structure St where
  cells : List MObj
  esc : List Nat
inductive Res (α : Type) where
  | ok (a : α) (S : St)
  | exc (e : D) (S : St)
  | err
abbrev M (α : Type) := St → Res α
def ret {α : Type} (a : α) : M α := fun S => .ok a S
def bnd {α β : Type} (m : M α) (f : α → M β) : M β := fun S => match m S with
  | .ok a S' => f a S'
  | .exc e S' => .exc e S'
  | .err => .err
def fail {α : Type} : M α := fun _ => .err
def lift {α : Type} : Option α → M α
  | some a => ret a
  | none => fail

def fsD : List (Nat × Val) → Option (List (Nat × D))
  | [] => some []
  | (f, .d x) :: r => (fsD r).map ((f, x) :: ·)
  | (_, .r _) :: _ => none
def MObj.toD : MObj → Option D
  | .lst ds => some (.lst ds)
  | .dic kvs => some (.dic kvs)
  | .ins c fs => (fsD fs).map (.ins c)
/-- a temporary that is kept as it stands -/
def RV.frz : RV → Option Val
  | .v x => some x
  | .tmp o => o.toD.map .d
/-- the data that a value is -/
def RV.toD : RV → Option D
  | .v (.d x) => some x
  | .v (.r _) => none
  | .tmp o => o.toD
/-- the data that a value is just now -/
def RV.look (S : St) : RV → Option D
  | .v (.d x) => some x
  | .v (.r i) => match S.cells[i]? with
    | some o => o.toD
    | none => none
  | .tmp o => o.toD
def looks (S : St) : List RV → Option (List D)
  | [] => some []
  | a :: r => match a.look S, looks S r with
    | some x, some xs => some (x :: xs)
    | _, _ => none
def dats : List RV → Option (List D)
  | [] => some []
  | a :: r => match a.toD, dats r with
    | some x, some xs => some (x :: xs)
    | _, _ => none
def look1 (a : RV) : M D := fun S => lift (a.look S) S
def lookAll (as : List RV) : M (List D) := fun S => lift (looks S as) S

/-- the length's line -/
def line : Nat := 16777216

/-! ### the written language -/
inductive Ty where
  | int | bool | str | tuple | list | dict | own (c : Nat)
  deriving DecidableEq
inductive Bf where
  | len | all | any | sum | sorted | list | tuple | dict | str | repr | int | max | min | divmod
  | sortedSet | lenSet | sortedItems | listValues
  deriving DecidableEq
inductive Bm where
  | append | pop | extend | clear | insert | index | count | join | split | partition | get | find
  deriving DecidableEq
inductive Tg where
  | v (i : Nat)
  | tup (ts : List Tg)
mutual
inductive ME where
  | c (d : D)
  | v (i : Nat)
  | g (x : Str)
  | tup (es : List ME)
  | lst (es : List ME)
  | dic (ks vs : List ME)
  | bin (op : Operator) (a b : ME)
  | neg (a : ME)
  | not (a : ME)
  | and (a b : ME)
  | or (a b : ME)
  | cmp (op : CmpOp) (a b : ME)
  | chn (o1 o2 : CmpOp) (a b c : ME)
  | ite (t a b : ME)
  | sub (a i : ME)
  | slc (a lo hi : ME) (nl nh : Bool)
  | rev (a : ME)
  | call (f : Str) (args : List ME) (ds : List D)
  | mk (c : Nat) (args : List ME) (ds : List D)
  | meth (o : ME) (m : Str) (args : List ME) (ds : List D)
  | bm (o : ME) (m : Bm) (args : List ME)
  | bf (f : Bf) (args : List ME)
  | ob (f : Bf) (m : Str) (a : ME)
  | isi (a : ME) (ts : List Ty)
  | attr (o : ME) (f : Nat)
  | comp (elt : ME) (tg : Tg) (own : List Nat) (it : It) (cond : ME)
  | fmt (r : Bool) (a : ME)
  | jstr (es : List ME)
inductive It where
  | e (x : ME)
  | range (es : List ME)
  | zip (es : List ME)
  | enum (a : ME) (start : Int)
  | items (a : ME)
  | values (a : ME)
end
inductive MS where
  | asg (i : Nat) (cell : Bool) (e : ME)
  | asgT (ts : List Tg) (e : ME)
  | par (is : List (Nat × Bool)) (es : List ME)
  | subA (o i e : ME)
  | aug (i : Nat) (op : Operator) (e : ME)
  | augS (o i : ME) (op : Operator) (e : ME)
  | attrA (o : ME) (f : Nat) (cell : Bool) (e : ME)
  | ex (e : ME)
  | ret (e : ME)
  | ifs (t : ME) (a b : List MS)
  | loop (tg : Tg) (it : It) (body : List MS)
  | whil (t : ME) (body : List MS)
  | rais (c : Nat) (args : List ME)
  | pass
  | brk
  | cont
structure Def where
  params : List Bool
  slots : Nat
  body : List MS
inductive FId where
  | fn (x : Str)
  | me (c : Nat) (m : Str)
  | init (c : Nat)
  deriving DecidableEq
end Pk
end
section
set_option Elab.async false
set_option linter.all false
set_option maxRecDepth 100000
/-! What the written language computes. -/
namespace Pk
open PySem
open Classical
noncomputable section

/-! ### operators on data -/
mutual
/-- data without instances -/
def D.plain : D → Bool
  | .non | .bl _ | .int _ | .str _ => true
  | .tup ds | .lst ds => plains ds
  | .dic kvs => plaink kvs
  | .ins _ _ | .exc _ _ | .fn _ | .scr _ => false
def plains : List D → Bool
  | [] => true
  | x :: r => x.plain && plains r
def plaink : List (D × D) → Bool
  | [] => true
  | (k, x) :: r => k.plain && x.plain && plaink r
end
mutual
def D.flat : D → Bool
  | .non | .bl _ | .int _ | .str _ => true
  | .tup ds | .lst ds => flats ds
  | .dic _ | .ins _ _ | .exc _ _ | .fn _ | .scr _ => false
def flats : List D → Bool
  | [] => true
  | x :: r => x.flat && flats r
end
mutual
/-- the library's data of flat data -/
def D.pd : D → PyData
  | .non => .none
  | .bl b => .bool b
  | .int i => .int i
  | .str s => .str s
  | .tup ds => .tuple (pds ds)
  | .lst ds => .list (pds ds)
  | .dic kvs => .dict (pdk kvs)
  | .ins _ _ | .exc _ _ | .fn _ | .scr _ => .none
def pds : List D → List PyData
  | [] => []
  | x :: r => x.pd :: pds r
def pdk : List (D × D) → List (PyData × PyData)
  | [] => []
  | (k, x) :: r => (k.pd, x.pd) :: pdk r
end
mutual
def D.nesting : D → Nat
  | .non | .bl _ | .int _ | .str _ => 0
  | .tup ds | .lst ds => nestings ds + 1
  | .dic kvs => nestingk kvs + 1
  | .ins _ _ | .exc _ _ | .fn _ | .scr _ => 0
def nestings : List D → Nat
  | [] => 0
  | x :: r => max x.nesting (nestings r)
def nestingk : List (D × D) → Nat
  | [] => 0
  | (k, x) :: r => max (max k.nesting x.nesting) (nestingk r)
end
/-- data that == compares by itself -/
def okD (d : D) : Bool := d.flat && SeqAt.shaped d.pd
/-- == -/
def strs2 : D → D → Option Bool
  | .str x, .str y => some (decide (x = y))
  | _, _ => none
def eqF (a b : D) : Option Bool := if okD a = true ∧ okD b = true then some (PyData.eqv a.pd b.pd) else none
def eqD (a b : D) : Option Bool := match strs2 a b with
  | some r => some r
  | none => eqF a b
/-- < -/
def ltD (a b : D) : Option Bool := if okD a = true ∧ okD b = true ∧ W.alike a.pd b.pd = true then some (W.dataLt a.pd b.pd) else none
/-- x in a row -/
def inD (x : D) (ds : List D) : Option Bool := if okD x = true ∧ okD (.lst ds) = true then some (ds.any fun y => PyData.eqv y.pd x.pd) else none
def strIn (x y : Str) : Bool := !(Builtin.Str.occurrences y x 0 y.length 1).isEmpty
def isKey : D → Bool
  | .int _ => true
  | .str _ => true
  | _ => false
def keyEq : D → D → Bool
  | .int i, .int j => decide (i = j)
  | .str x, .str y => decide (x = y)
  | _, _ => false
def dGet (k : D) : List (D × D) → Option D
  | [] => none
  | (l, x) :: r => if keyEq l k = true then some x else dGet k r
def dPut (k x : D) (kvs : List (D × D)) : List (D × D) := if (kvs.any fun p => keyEq p.1 k) = true then kvs.map (fun p => if keyEq p.1 k = true then (p.1, x) else p) else kvs ++ [(k, x)]
/-- a row in order -/
def sortD (ds : List D) : Option (List D) :=
  if okD (.lst ds) = true ∧ W.AllAlike (ds.map D.pd) ∧ W.Sortable (ds.map D.pd) ∧ ds.length ≤ line then some (ds.mergeSort (W.dataLe false D.pd)) else none
/-- the unlike ones, the first of each -/
def firsts : List D → List D → List D
  | acc, [] => acc
  | acc, x :: r => if (acc.any fun y => PyData.eqv y.pd x.pd) = true then firsts acc r else firsts (acc ++ [x]) r
mutual
def D.key : D → Bool
  | .int _ => true
  | .str _ => true
  | .tup ds => keysOk ds
  | _ => false
def keysOk : List D → Bool
  | [] => true
  | x :: r => x.key && keysOk r
end
def D.isStr : D → Bool
  | .str _ => true
  | _ => false
def D.isTup : D → Bool
  | .tup _ => true
  | _ => false
/-- rows of which a set can be made: texts, or tuples of keys -/
def setOk (ds : List D) : Bool := keysOk ds && okD (.lst ds) && ((ds.all D.isStr && decide (ds.length < 4000)) || (ds.all D.isTup && decide (nestings ds ≤ 7) && decide (ds.length < 60)))
def tmpL (ds : List D) : RV := .tmp (.lst ds)
def dv (x : D) : RV := .v (.d x)
def iv (i : Int) : RV := .v (.d (.int i))
def bv (b : Bool) : RV := .v (.d (.bl b))
def sv (s : Str) : RV := .v (.d (.str s))

def binD (op : Operator) (a b : D) : Option RV := match op, a, b with
  | .Add, .int i, .int j => some (iv (i + j))
  | .Sub, .int i, .int j => some (iv (i - j))
  | .Mult, .int i, .int j => if i.natAbs < 2 ^ 63 ∨ j.natAbs < 2 ^ 63 then some (iv (i * j)) else none
  | .FloorDiv, .int i, .int j => if 0 < j ∧ j < 1073741824 then some (iv (i / j)) else none
  | .Mod, .int i, .int j => if 0 < j then some (iv (i % j)) else none
  | .Pow, .int i, .int j => if 0 ≤ j ∧ j ≤ 1000000 ∧ i.natAbs < 2 ^ 63 then some (iv (i ^ j.toNat)) else none
  | .Add, .str x, .str y => if x.length + y.length ≤ line then some (sv (x ++ y)) else none
  | .Add, .tup x, .tup y => if x.length + y.length ≤ line then some (dv (.tup (x ++ y))) else none
  | .Add, .lst x, .lst y => if x.length + y.length ≤ line then some (tmpL (x ++ y)) else none
  | .Mult, .lst x, .int k => if -(2 ^ 63) ≤ k ∧ k < 2 ^ 63 ∧ x.length * k.toNat ≤ line then some (tmpL (List.replicate k.toNat x).flatten) else none
  | _, _, _ => none
/-- a comparison that is no == -/
def cmpD (op : CmpOp) (a b : D) : Option Bool := match op, a, b with
  | .Lt, .int i, .int j => some (decide (i < j))
  | .LtE, .int i, .int j => some (decide (i ≤ j))
  | .Gt, .int i, .int j => some (decide (j < i))
  | .GtE, .int i, .int j => some (decide (j ≤ i))
  | .Lt, .str x, .str y => some (decide (x.cps.toList < y.cps.toList))
  | .LtE, .str x, .str y => some (!decide (y.cps.toList < x.cps.toList))
  | .Eq, x, y => eqD x y
  | .NotEq, x, y => (eqD x y).map (!·)
  | .Is, x, .non => some (match x with | .non => true | _ => false)
  | .IsNot, x, .non => some (match x with | .non => false | _ => true)
  | .In, .str x, .str y => some (strIn x y)
  | .NotIn, .str x, .str y => some (!strIn x y)
  | .In, x, .tup ys => inD x ys
  | .In, x, .lst ys => inD x ys
  | .NotIn, x, .tup ys => (inD x ys).map (!·)
  | .NotIn, x, .lst ys => (inD x ys).map (!·)
  | .In, x, .dic kvs => if isKey x = true then some (dGet x kvs).isSome else none
  | .NotIn, x, .dic kvs => if isKey x = true then some (!(dGet x kvs).isSome) else none
  | _, _, _ => none

def truth : D → Option Bool
  | .non => some false
  | .bl b => some b
  | .int i => some (i != 0)
  | .str s => if s.length ≤ line then some ((s.length : Int) != 0) else none
  | .tup ds => some (!ds.isEmpty)
  | .lst ds => some (!ds.isEmpty)
  | .dic _ | .ins _ _ | .exc _ _ | .fn _ | .scr _ => none
def tyOk : Ty → D → Option Bool
  | .int, .int _ | .int, .bl _ | .bool, .bl _ | .str, .str _ | .tuple, .tup _ | .list, .lst _ | .list, .scr _ | .dict, .dic _ => some true
  | .own c, .ins c' _ => some (c == c')
  | _, _ => some false
/-- places of a row: a place from behind, too -/
def atD {α : Type} (ds : List α) (i : Int) : Option α := if 0 ≤ i then ds[i.toNat]? else if -(ds.length : Int) ≤ i then ds[(i + ds.length).toNat]? else none
def getD (o i : D) : Option D := match o, i with
  | .tup ds, .int i => atD ds i
  | .lst ds, .int i => atD ds i
  | .scr ns, .int i => (atD ns i).map .int
  | .str s, .int i => if s.length ≤ line then (atD s.cps.toList i).map fun c => .str ⟨#[c]⟩ else none
  | .dic kvs, k => if isKey k = true then dGet k kvs else none
  | _, _ => none
/-- an end of a slice -/
def endOf (n d : Nat) : Option Int → Nat
  | none => d
  | some i => if i < 0 then (i + (n : Int)).toNat else min i.toNat n
/-- a slice's part: left out, or an int -/
def partR (there : Bool) (v : RV) : Option (Option Int) := if there = true then match v with
    | .v (.d (.int i)) => some (some i)
    | _ => none
  else some none
def cut {α : Type} (xs : List α) (lo hi : Option Int) : List α := (xs.drop (endOf xs.length 0 lo)).take (endOf xs.length xs.length hi - endOf xs.length 0 lo)
def slcO (o : D) (lo hi : Option Int) : Option RV := match o with
  | .tup ds => some (dv (.tup (cut ds lo hi)))
  | .lst ds => some (tmpL (cut ds lo hi))
  | .scr ns => some (tmpL ((cut ns lo hi).map .int))
  | .str s => if s.length ≤ line then some (sv ⟨(cut s.cps.toList lo hi).toArray⟩) else none
  | _ => none
def revD : D → Option RV
  | .lst ds => some (tmpL ds.reverse)
  | _ => none
def boolsOf : List D → Option (List Bool)
  | [] => some []
  | .bl b :: r => (boolsOf r).map (b :: ·)
  | _ :: _ => none
def intsOf : List D → Option (List Int)
  | [] => some []
  | .int b :: r => (intsOf r).map (b :: ·)
  | _ :: _ => none
def strsOf : List D → Option (List Str)
  | [] => some []
  | .str b :: r => (strsOf r).map (b :: ·)
  | _ :: _ => none
def seqD : D → Option (List D)
  | .tup ds => some ds
  | .lst ds => some ds
  | _ => none
def pairD : D × D → D
  | (k, x) => .tup [k, x]
def mergeD : List D → List (D × D) → Option (List (D × D))
  | [], acc => some acc
  | .tup [k, x] :: r, acc => if isKey k = true then mergeD r (dPut k x acc) else none
  | _ :: _, _ => none
def showOk (d : PyData) : Prop := d.showable = true ∧ d.shown.length ≤ line
def reprD (d : D) : Option Str := if d.flat = true ∧ d.pd.depth ≤ 60 ∧ showOk d.pd then some d.pd.shown else none
def leastI : List Int → Option Int
  | [] => none
  | [x] => some x
  | x :: r => (leastI r).map fun y => if y < x then y else x
def mostI : List Int → Option Int
  | [] => none
  | [x] => some x
  | x :: r => (mostI r).map fun y => if x < y then y else x
def bfD (f : Bf) (as : List D) : Option RV := match f, as with
  | .len, [.str s] => if s.length ≤ line then some (iv s.length) else none
  | .len, [.tup ds] => some (iv ds.length)
  | .len, [.lst ds] => some (iv ds.length)
  | .len, [.dic kvs] => some (iv kvs.length)
  | .len, [.scr ns] => some (iv ns.length)
  | .all, [.lst ds] => (boolsOf ds).map fun bs => bv (bs.all id)
  | .any, [.lst ds] => (boolsOf ds).map fun bs => bv (bs.any id)
  | .sum, [.lst ds] => (intsOf ds).map fun bs => iv bs.sum
  | .sorted, [.lst ds] => (sortD ds).map tmpL
  | .list, [.lst ds] => some (tmpL ds)
  | .list, [.tup ds] => some (tmpL ds)
  | .tuple, [.tup ds] => some (dv (.tup ds))
  | .tuple, [.lst ds] => some (dv (.tup ds))
  | .str, [.int i] => if i.natAbs.log2 < 1920 then some (sv (toString i : String)) else none
  | .repr, [d] => (reprD d).map sv
  | .int, [.bl b] => some (iv (if b then 1 else 0))
  | .int, [.int b] => some (iv b)
  | .max, [.int i, .int j] => some (iv (if j > i then j else i))
  | .min, [.int i, .int j] => some (iv (if j < i then j else i))
  | .max, [.lst ds] => match intsOf ds with
    | some is => (mostI is).map iv
    | none => none
  | .min, [.lst ds] => match intsOf ds with
    | some is => (leastI is).map iv
    | none => none
  | .divmod, [.int i, .int j] => if 0 < j ∧ j < 1073741824 then some (dv (.tup [.int (i / j), .int (i % j)])) else none
  | .dict, [.lst ds] => (mergeD ds []).map fun kvs => .tmp (.dic kvs)
  | .sortedSet, [.lst ds] => if setOk ds = true then (sortD (firsts [] ds)).map tmpL else none
  | .sortedSet, [.tup ds] => if setOk ds = true then (sortD (firsts [] ds)).map tmpL else none
  | .lenSet, [.lst ds] => if setOk ds = true then some (iv (firsts [] ds).length) else none
  | .lenSet, [.tup ds] => if setOk ds = true then some (iv (firsts [] ds).length) else none
  | .sortedItems, [.dic kvs] => (sortD (kvs.map pairD)).map tmpL
  | .listValues, [.dic kvs] => some (tmpL (kvs.map (·.2)))
  | _, _ => none
def joinLen (s : Str) (xs : List Str) : Nat := (xs.map fun x => x.length + s.length).sum
def findAt (x : D) : List D → Nat → Option (Option Nat)
  | [], _ => some none
  | y :: r, k => match eqD y x with
    | some true => some (some k)
    | some false => findAt x r (k + 1)
    | none => none
def countD (x : D) (ds : List D) : Option Nat := if okD x = true ∧ okD (.lst ds) = true then some (ds.countP fun y => PyData.eqv y.pd x.pd) else none
/-- methods that change nothing -/
def countO : D → List D → Option RV
  | .lst ds, [x] => (countD x ds).map fun (n : Nat) => iv (n : Int)
  | _, _ => none
def joinO : D → List D → Option RV
  | .str s, [.lst ds] => match strsOf ds with
    | some xs => if joinLen s xs ≤ line then some (sv (Txt.join s xs)) else none
    | none => none
  | .str s, [.tup ds] => match strsOf ds with
    | some xs => if joinLen s xs ≤ line then some (sv (Txt.join s xs)) else none
    | none => none
  | _, _ => none
/-- data that are no object of their own -/
def fixD : D → Bool
  | .lst _ | .dic _ | .ins _ _ => false
  | _ => true
def getO : D → List D → Option RV
  | .dic kvs, [k, x] => if isKey k = true ∧ fixD x = true then some (dv ((dGet k kvs).getD x)) else none
  | _, _ => none
def bmD (m : Bm) (o : D) (as : List D) : Option RV := match m with
  | .count => countO o as
  | .join => joinO o as
  | .get => getO o as
  | _ => none
/-- methods that change the object -/
def appO : MObj → List D → Option (MObj × D)
  | .lst ds, [x] => if ds.length < line then some (.lst (ds ++ [x]), .non) else none
  | _, _ => none
def clearO : MObj → List D → Option (MObj × D)
  | .lst _, [] => some (.lst [], .non)
  | _, _ => none
def popO : MObj → List D → Option (MObj × D)
  | .lst ds, [] => match ds.getLast? with
    | some x => some (.lst ds.dropLast, x)
    | none => none
  | .lst ds, [.int i] => if 0 ≤ i ∧ i < 2 ^ 62 then match ds[i.toNat]? with
    | some x => some (.lst (ds.eraseIdx i.toNat), x)
    | none => none
    else none
  | _, _ => none
def bmO (m : Bm) (o : MObj) (as : List D) : Option (MObj × D) := match m with
  | .append => appO o as
  | .clear => clearO o as
  | .pop => popO o as
  | _ => none
/-- o[i] = x -/
def putO (o : MObj) (i x : D) : Option MObj := match o, i with
  | .lst ds, .int i => if 0 ≤ i ∧ i < ds.length then some (.lst (ds.set i.toNat x)) else none
  | .dic kvs, k => if isKey k = true ∧ kvs.length < line then some (.dic (dPut k x kvs)) else none
  | _, _ => none
def putF (f : Nat) (x : Val) : List (Nat × Val) → List (Nat × Val)
  | [] => [(f, x)]
  | (g, y) :: r => if g = f then (f, x) :: r else (g, y) :: putF f x r

/-! ### programs -/
/-- written arguments, then the defaults that fill up -/
def pick {α : Type} (z : α) (ns : List Int) (xs : List α) : List α := ns.map fun i => xs.getD i.toNat z
/-- what is left out stands behind; where ds begins with places, these are picked of all -/
def place (ds : List D) (as : List RV) : List RV := match ds with
  | .scr ns :: cs => pick (dv .non) ns (as ++ cs.map dv)
  | ds => as ++ ds.map dv
abbrev Env := List (Option Val)
inductive Fl where
  | nx
  | brk
  | cont
  | ret (v : RV)
/-- the text: constants, what a call of a def does, which classes change -/
structure Tx where
  glob : Str → Option D
  call : FId → List RV → M RV
  has : FId → Bool
  chg : Nat → Bool

def setTgs (f : Tg → D → Env → Option Env) : List Tg → List D → Env → Option Env
  | [], [], ρ => some ρ
  | t :: ts, x :: xs, ρ => match f t x ρ with
    | some ρ' => setTgs f ts xs ρ'
    | none => none
  | _, _, _ => none
mutual
def setTg : Tg → D → Env → Option Env
  | .v i, x, ρ => if i < ρ.length then some (ρ.set i (some (.d x))) else none
  | .tup ts, .tup xs, ρ => setTgL ts xs ρ
  | .tup _, _, _ => none
def setTgL : List Tg → List D → Env → Option Env
  | [], [], ρ => some ρ
  | t :: ts, x :: xs, ρ => match setTg t x ρ with
    | some ρ' => setTgL ts xs ρ'
    | none => none
  | [], _ :: _, _ => none
  | _ :: _, [], _ => none
end
def signs (s : Str) : List D := s.cps.toList.map fun c => .str ⟨#[c]⟩
/-- what a walk over a value's items meets: items that stay, or a cell's list -/
inductive Walk where
  | row (ds : List D)
  | cell (i : Nat)
def walkOf (S : St) : RV → Option Walk
  | .v (.d (.tup ds)) => some (.row ds)
  | .v (.d (.lst ds)) => some (.row ds)
  | .v (.d (.str s)) => some (.row (signs s))
  | .tmp (.lst ds) => some (.row ds)
  | .v (.r i) => match S.cells[i]? with
    | some (.lst _) => some (.cell i)
    | _ => none
  | _ => none
def zipD : List D → List D → List D
  | x :: xs, y :: ys => .tup [x, y] :: zipD xs ys
  | _, _ => []
def enumD : Int → List D → List D
  | _, [] => []
  | k, x :: xs => .tup [.int k, x] :: enumD (k + 1) xs
def rangeD (lo : Int) (n : Nat) : List D := (List.range n).map fun (k : Nat) => .int (lo + k)
abbrev smallI (i : Int) : Prop := -(2 ^ 62) ≤ i ∧ i < 2 ^ 62
def rangeOf : List D → Option (List D)
  | [.int n] => if smallI n then some (rangeD 0 n.toNat) else none
  | [.int a, .int b] => if smallI a ∧ smallI b then some (rangeD a (b - a).toNat) else none
  | _ => none
/-- two rows of one kind -/
def zipO : D → D → Option (List D)
  | .tup xs, .tup ys => some (zipD xs ys)
  | .lst xs, .lst ys => some (zipD xs ys)
  | _, _ => none
def turns : Nat := 1000000
section
variable {α : Type}
/-- a for over a row: step gives some a to leave with -/
def forRow (step : D → Env → M (Option α × Env)) : List D → Env → M (Option α × Env)
  | [], ρ => ret (none, ρ)
  | x :: r, ρ => bnd (step x ρ) fun p => match p with
    | (some a, ρ') => ret (some a, ρ')
    | (none, ρ') => forRow step r ρ'
def cellAt (i k : Nat) : M (Option D) := fun S => match S.cells[i]? with
  | some (.lst ds) => .ok ds[k]? S
  | _ => .err
def forCell (step : D → Env → M (Option α × Env)) (i : Nat) : Nat → Nat → Env → M (Option α × Env)
  | 0, _, _ => fail
  | n + 1, k, ρ => bnd (cellAt i k) fun o => match o with
    | none => ret (none, ρ)
    | some x => bnd (step x ρ) fun p => match p with
      | (some a, ρ') => ret (some a, ρ')
      | (none, ρ') => forCell step i n (k + 1) ρ'
def forWalk (step : D → Env → M (Option α × Env)) : Walk → Env → M (Option α × Env)
  | .row ds, ρ => forRow step ds ρ
  | .cell i, ρ => forCell step i turns 0 ρ
end
/-- one item more in the cell n -/
def putC (n : Nat) : Option D → M Unit
  | none => ret ()
  | some y => fun S => match S.cells[n]? with
    | some (.lst acc) => if acc.length < line then .ok () { S with cells := S.cells.set n (.lst (acc ++ [y])) } else .err
    | _ => .err
/-- a comprehension's turns, its list in the cell n -/
def compRow (step : D → M (Option D)) (n : Nat) : List D → M Unit
  | [] => ret ()
  | x :: r => bnd (step x) fun o => bnd (putC n o) fun _ => compRow step n r
def compCell (step : D → M (Option D)) (n i : Nat) : Nat → Nat → M Unit
  | 0, _ => fail
  | m + 1, k => bnd (cellAt i k) fun o => match o with
    | none => ret ()
    | some x => bnd (step x) fun o => bnd (putC n o) fun _ => compCell step n i m (k + 1)
def compWalk (step : D → M (Option D)) (n : Nat) : Walk → M Unit
  | .row ds => compRow step n ds
  | .cell i => compCell step n i turns 0
/-- the list is new; it is all that the turns leave behind -/
def compEnd (n e : Nat) (S : St) : Res RV := match S.cells[n]?, S.cells.drop (n + 1) with
  | some (.lst acc), [] => if S.esc.length ≤ e then .ok (tmpL acc) { S with cells := S.cells.take n } else .err
  | _, _ => .err
def compNew (turnsOf : Nat → M Unit) : M RV := fun S => match turnsOf S.cells.length { S with cells := S.cells ++ [.lst []] } with
  | .ok _ S' => compEnd S.cells.length S.esc.length S'
  | _ => .err
/-- a block's own names forgotten -/
def wipeE (ρ : Env) : List Nat → Env
  | [] => ρ
  | v :: vs => (wipeE ρ vs).set v none
/-- what raises counts for nothing -/
def nox {α : Type} (m : M α) : M α := fun S => match m S with
  | .ok a S' => .ok a S'
  | _ => .err
/-- what an own __len__, __repr__ may give -/
def backD : Bf → D → Option RV
  | .len, .int n => if 0 ≤ n ∧ n < 9223372036854775808 then some (iv n) else none
  | .repr, .str s => some (sv s)
  | .str, .str s => some (sv s)
  | _, _ => none
/-- a part of an f-string -/
def fmtD (r : Bool) (d : D) : Option RV := match r, d with
  | true, .str s => (reprD (.str s)).map sv
  | true, .int s => (reprD (.int s)).map sv
  | true, .tup s => (reprD (.tup s)).map sv
  | true, .lst s => (reprD (.lst s)).map sv
  | false, .str s => if s.length ≤ line then some (sv s) else none
  | false, .int i => if i.natAbs.log2 < 1920 then some (sv (toString i : String)) else none
  | _, _ => none
def testOf (m : M RV) : M Bool := bnd m fun v => bnd (look1 v) fun d => lift (truth d)
def notD : D → Option RV
  | .bl b => some (bv (!b))
  | _ => none
def notV (v : RV) : M RV := bnd (look1 v) fun d => lift (notD d)
/-- the method's class -/
def clsOf (S : St) : RV → Option Nat
  | .v (.d (.ins c _)) => some c
  | .v (.r i) => match S.cells[i]? with
    | some (.ins c _) => some c
    | _ => none
  | .tmp (.ins c _) => some c
  | _ => none
def attrOf (S : St) (f : Nat) : RV → Option Val
  | .v (.d (.ins _ fs)) => (fs.lookup f).map .d
  | .v (.r i) => match S.cells[i]? with
    | some (.ins _ fs) => fs.lookup f
    | _ => none
  | .tmp (.ins _ fs) => fs.lookup f
  | _ => none
def boolOnly (v : RV) : M RV := match v with
  | .v (.d (.bl b)) => ret (bv b)
  | _ => fail
/-- == of two values; none of an own class -/
def eqV (a b : RV) : M RV := fun S => match clsOf S a, clsOf S b with
  | none, none => lift ((looks S [a, b]).bind fun ds => match ds with
      | [x, y] => (eqD x y).map bv
      | _ => none) S
  | _, _ => .err
def RV.isNon : RV → Bool
  | .v (.d .non) => true
  | _ => false
def noneD : Option D → Bool
  | some .non => true
  | _ => false
def cmpV (op : CmpOp) (a b : RV) : M RV := match op with
  | .Eq => eqV a b
  | .NotEq => bnd (eqV a b) notV
  | .Is => fun S => if noneD (b.look S) = true then .ok (bv a.isNon) S else .err
  | .IsNot => fun S => if noneD (b.look S) = true then .ok (bv (!a.isNon)) S else .err
  | op => fun S => lift ((looks S [a, b]).bind fun ds => match ds with
      | [x, y] => (cmpD op x y).map bv
      | _ => none) S
/-- an object made by its class -/
def make (T : Tx) (c : Nat) (as : List RV) : M RV := fun S =>
  match T.call (.init c) (.v (.r S.cells.length) :: as) { S with cells := S.cells ++ [.ins c []] } with
  | .ok (.v (.d .non)) S' =>
    if T.chg c = true then .ok (.v (.r S.cells.length)) S'
    else match S'.cells[S.cells.length]?, S'.cells.drop (S.cells.length + 1) with
      | some (.ins c' fs), [] => match fsD fs with
        | some fs' => if S'.esc.length ≤ S.esc.length then .ok (dv (.ins c' fs')) { S' with cells := S'.cells.take S.cells.length } else .err
        | none => .err
      | _, _ => .err
  | _ => .err

/-- a receiver's kind -/
inductive Bk where
  | lst | dic | str
  deriving DecidableEq
def bkOf (S : St) : RV → Option Bk
  | .v (.d (.lst _)) => some .lst
  | .v (.d (.dic _)) => some .dic
  | .v (.d (.str _)) => some .str
  | .v (.r i) => match S.cells[i]? with
    | some (.lst _) => some .lst
    | some (.dic _) => some .dic
    | _ => none
  | .tmp (.lst _) => some .lst
  | .tmp (.dic _) => some .dic
  | _ => none
def bmOk : Bk → Bm → Bool
  | .lst, .append => true
  | .lst, .pop => true
  | .lst, .clear => true
  | .lst, .count => true
  | .dic, .get => true
  | .str, .join => true
  | _, _ => false
def readBm (m : Bm) (o : Option D) (ds : Option (List D)) : Option RV := match o, ds with
  | some d, some ds => bmD m d ds
  | _, _ => none
def callBm (m : Bm) (o : RV) (as : List RV) : M RV := fun S => match o with
  | .v (.r i) => match S.cells[i]? with
    | some ob => match (dats as).bind (bmO m ob) with
      | some p => .ok (dv p.2) { S with cells := S.cells.set i p.1 }
      | none => lift (readBm m ob.toD (looks S as)) S
    | none => .err
  | o => lift (readBm m (o.look S) (looks S as)) S
/-! ### an own == -/
/-- the kinds whose == declines an own class's instance -/
def declines : D → Bool
  | .non | .int _ | .str _ | .tup _ | .lst _ => true
  | _ => false
def boolG (g : Bool → Bool) (v : RV) : M RV := match v with
  | .v (.d (.bl k)) => ret (bv (g k))
  | _ => fail
/-- two instances of one class, equal by its own == -/
def insPair (T : Tx) (S : St) (x y : D) : Prop := ∃ c fs gs, x = .ins c fs ∧ y = .ins c gs ∧ T.has (.me c "__eq__") = true ∧ T.call (.me c "__eq__") [dv x, dv y] S = .ok (bv true) S
def insPairs (T : Tx) (S : St) : List D → List D → Prop
  | [], [] => True
  | x :: xs, y :: ys => insPair T S x y ∧ insPairs T S xs ys
  | _, _ => False
/-- rows of such: lists ==, tuples != -/
def seqEq (T : Tx) (op : CmpOp) (a b : RV) : M RV := fun S => match op, a.look S, b.look S with
  | .Eq, some (.lst xs), some (.lst ys) => if insPairs T S xs ys then .ok (bv true) S else .err
  | .NotEq, some (.tup xs), some (.tup ys) => if insPairs T S xs ys then .ok (bv false) S else .err
  | _, _, _ => .err
def known (S : St) (b : RV) : Bool := (clsOf S b).isSome || (b.look S).isSome
def ownEq (T : Tx) (op : CmpOp) (g : Bool → Bool) (a b : RV) : M RV := fun S => match a, b with
  | .v x, .v y => match clsOf S (.v x), clsOf S (.v y) with
    | some c, _ => if T.has (.me c "__eq__") = true ∧ known S (.v y) = true then nox (bnd (T.call (.me c "__eq__") [.v x, .v y]) (boolG g)) S else .err
    | none, some c => match x with
      | .d d => if T.has (.me c "__eq__") = true ∧ declines d = true then nox (bnd (T.call (.me c "__eq__") [.v y, .v (.d d)]) (boolG g)) S else .err
      | .r _ => .err
    | none, none => seqEq T op a b S
  | _, _ => seqEq T op a b S
/-- the first item of a list is such an instance -/
def ownIn (T : Tx) (k : Bool) (a b : RV) : M RV := fun S => match a, b.look S with
  | .v (.d x), some (.lst (y :: _)) => if insPair T S y x then .ok (bv k) S else .err
  | _, _ => .err
/-- is of two truths -/
def isBl (g : Bool → Bool) (a b : RV) : M RV := match a, b with
  | .v (.d (.bl j)), .v (.d (.bl k)) => ret (bv (g (j == k)))
  | _, _ => fail
def ownCmp (T : Tx) (op : CmpOp) (a b : RV) : M RV := match op with
  | .Eq => ownEq T .Eq id a b
  | .NotEq => ownEq T .NotEq (!·) a b
  | .In => ownIn T true a b
  | .NotIn => ownIn T false a b
  | .Is => isBl id a b
  | .IsNot => isBl (!·) a b
  | _ => fail
/-- a comparison: plain, or by an own class's == -/
def cmpW (T : Tx) (op : CmpOp) (a b : RV) : M RV := fun S => match cmpV op a b S with
  | .ok r S' => .ok r S'
  | _ => ownCmp T op a b S
mutual
def evE (T : Tx) : ME → Env → M RV
  | .c d, _ => ret (dv d)
  | .v i, ρ => match ρ[i]? with
    | some (some x) => ret (.v x)
    | _ => fail
  | .g x, _ => match T.glob x with
    | some d => ret (dv d)
    | none => fail
  | .tup es, ρ => bnd (evL T es ρ) fun as => lift ((dats as).bind fun ds => if ds.length ≤ line then some (dv (.tup ds)) else none)
  | .lst es, ρ => bnd (evL T es ρ) fun as => lift ((dats as).bind fun ds => if ds.length ≤ line then some (tmpL ds) else none)
  | .dic ks vs, ρ => match ks, vs with
    | [], [] => ret (.tmp (.dic []))
    | _, _ => bnd (evL T ks ρ) fun as => bnd (evL T vs ρ) fun bs => lift (match dats as, dats bs with
      | some ks, some xs => if ks.length = xs.length then (mergeD (zipD ks xs) []).map fun kvs => .tmp (.dic kvs) else none
      | _, _ => none)
  | .bin op a b, ρ => bnd (evE T a ρ) fun x => bnd (evE T b ρ) fun y => bnd (lookAll [x, y]) fun ds => match ds with
    | [x, y] => lift (binD op x y)
    | _ => fail
  | .neg a, ρ => bnd (evE T a ρ) fun x => bnd (look1 x) fun d => match d with
    | .int i => ret (iv (-i))
    | _ => fail
  | .not a, ρ => bnd (testOf (evE T a ρ)) fun b => ret (bv (!b))
  | .and a b, ρ => bnd (evE T a ρ) fun x => bnd (testOf (ret x)) fun t => if t = true then evE T b ρ else ret x
  | .or a b, ρ => bnd (evE T a ρ) fun x => bnd (testOf (ret x)) fun t => if t = true then ret x else evE T b ρ
  | .cmp op a b, ρ => bnd (evE T a ρ) fun x => bnd (evE T b ρ) fun y => cmpW T op x y
  | .chn o1 o2 a b c, ρ => bnd (evE T a ρ) fun x => bnd (evE T b ρ) fun y => bnd (testOf (cmpV o1 x y)) fun t =>
      if t = true then bnd (evE T c ρ) fun z => cmpV o2 y z else ret (bv false)
  | .ite t a b, ρ => bnd (testOf (evE T t ρ)) fun k => if k = true then evE T a ρ else evE T b ρ
  | .sub a i, ρ => bnd (evE T a ρ) fun x => bnd (evE T i ρ) fun y => bnd (lookAll [x, y]) fun ds => match ds with
    | [x, y] => lift ((getD x y).map dv)
    | _ => fail
  | .slc a lo hi nl nh, ρ => bnd (evE T a ρ) fun x => bnd (evE T lo ρ) fun y => bnd (lift (partR nl y)) fun l => bnd (evE T hi ρ) fun z => bnd (lift (partR nh z)) fun h => bnd (look1 x) fun d => lift (slcO d l h)
  | .rev a, ρ => bnd (evE T a ρ) fun x => bnd (look1 x) fun d => lift (revD d)
  | .call f es ds, ρ => if T.has (.fn f) = true then bnd (evL T es ρ) fun as => T.call (.fn f) (place ds as) else fail
  | .mk c es ds, ρ => if T.has (.init c) = true then bnd (evL T es ρ) fun as => make T c (place ds as) else fail
  | .meth o m es ds, ρ => bnd (evE T o ρ) fun x => fun S => match clsOf S x with
    | some c => if T.has (.me c m) = true then bnd (evL T es ρ) (fun as => T.call (.me c m) (x :: place ds as)) S else .err
    | none => .err
  | .bm o m es, ρ => bnd (evE T o ρ) fun x => fun S => match bkOf S x with
    | some k => if bmOk k m = true then bnd (evL T es ρ) (fun as => callBm m x as) S else .err
    | none => .err
  | .bf f es, ρ => bnd (evL T es ρ) fun as => bnd (lookAll as) fun ds => lift (bfD f ds)
  | .ob f m a, ρ => bnd (evE T a ρ) fun x => fun S => match clsOf S x with
    | some c => if T.has (.me c m) = true then bnd (T.call (.me c m) [x]) (fun v => bnd (look1 v) fun d => lift (backD f d)) S else .err
    | none => bnd (look1 x) (fun d => lift (bfD f [d])) S
  | .isi a ts, ρ => bnd (evE T a ρ) fun x => fun S => match clsOf S x with
    | some c => .ok (bv (ts.any fun t => t == .own c)) S
    | none => lift ((x.look S).map fun d => bv (ts.any fun t => tyOk t d == some true)) S
  | .attr o f, ρ => bnd (evE T o ρ) fun x => fun S => lift ((attrOf S f x).map .v) S
  | .comp elt tg own it cond, ρ => bnd (evI T it ρ) fun w => compNew fun n => compWalk (fun x => match setTg tg x (wipeE ρ own) with
      | some ρ' => bnd (testOf (evE T cond ρ')) fun b => if b = true then bnd (evE T elt ρ') fun v => lift (v.toD.map some) else ret none
      | none => fail) n w
  | .fmt r a, ρ => bnd (evE T a ρ) fun x => bnd (look1 x) fun d => lift (fmtD r d)
  | .jstr es, ρ => evJ T es Str.empty ρ
def evJ (T : Tx) : List ME → Str → Env → M RV
  | [], acc, _ => ret (sv acc)
  | e :: es, acc, ρ => bnd (evE T e ρ) fun x => match x with
    | .v (.d (.str y)) => if (acc ++ y).length ≤ line then evJ T es (acc ++ y) ρ else fail
    | _ => fail
def evL (T : Tx) : List ME → Env → M (List RV)
  | [], _ => ret []
  | e :: es, ρ => bnd (evE T e ρ) fun x => bnd (evL T es ρ) fun xs => ret (x :: xs)
def evI (T : Tx) : It → Env → M Walk
  | .e a, ρ => bnd (evE T a ρ) fun x => fun S => lift (walkOf S x) S
  | .range es, ρ => bnd (evL T es ρ) fun as => bnd (lookAll as) fun ds => lift ((rangeOf ds).map .row)
  | .zip es, ρ => bnd (evL T es ρ) fun as => bnd (lift (dats as)) fun ds => match ds with
    | [x, y] => lift ((zipO x y).map .row)
    | _ => fail
  | .enum _ _, _ => fail
  | .items _, _ => fail
  | .values _, _ => fail
end

/-- x op= y, ints -/
def augD (op : Operator) (x y : D) : Option D := match op, x, y with
  | .Add, .int i, .int j => some (.int (i + j))
  | .Sub, .int i, .int j => some (.int (i - j))
  | _, _, _ => none
/-- a value laid under a name: a new object in a cell of its own, if the name is one whose object changes -/
def lay (cell : Bool) (v : RV) : M Val := match cell, v with
  | true, .tmp o => fun S => .ok (.r S.cells.length) { S with cells := S.cells ++ [o] }
  | _, v => lift v.frz
def setV (i : Nat) (x : Val) (ρ : Env) : Option Env := if i < ρ.length then some (ρ.set i (some x)) else none
def parSet : List (Nat × Bool) → List RV → Env → M Env
  | [], [], ρ => ret ρ
  | (i, c) :: is, v :: vs, ρ => bnd (lay c v) fun x => bnd (lift (setV i x ρ)) fun ρ' => parSet is vs ρ'
  | _, _, _ => fail
def putItem (o i x : RV) : M Unit := fun S => match o, i.look S, x.toD with
  | .v (.r k), some i, some x => match S.cells[k]? with
    | some ob => match putO ob i x with
      | some ob' => .ok () { S with cells := S.cells.set k ob' }
      | none => .err
    | none => .err
  | _, _, _ => .err
def putAttr (o : RV) (f : Nat) (x : Val) : M Unit := fun S => match o with
  | .v (.r k) => match S.cells[k]? with
    | some (.ins c fs) => if fs.length < 900 then match x with
      | .d _ => .ok () { S with cells := S.cells.set k (.ins c (putF f x fs)) }
      | .r _ => .ok () { cells := S.cells.set k (.ins c (putF f x fs)), esc := k :: S.esc }
      else .err
    | _ => .err
  | _ => .err
def whileL (t : Env → M Bool) (body : Env → M (Option RV × Env)) : Nat → Env → M (Option RV × Env)
  | 0, _ => fail
  | n + 1, ρ => bnd (t ρ) fun b => if b = true then bnd (body ρ) fun p => match p with
      | (some a, ρ') => ret (some a, ρ')
      | (none, ρ') => whileL t body n ρ'
    else ret (none, ρ)
/-- a loop's body: what a turn leaves with; Sum: break is told apart by «none» inside -/
def turnOf (m : M (Fl × Env)) : M (Option (Option RV) × Env) := bnd m fun p => match p with
  | (.nx, ρ) => ret (none, ρ)
  | (.cont, ρ) => ret (none, ρ)
  | (.brk, ρ) => ret (some none, ρ)
  | (.ret v, ρ) => ret (some (some v), ρ)
def endLoop : Option (Option RV) × Env → M (Fl × Env)
  | (none, ρ) => ret (.nx, ρ)
  | (some none, ρ) => ret (.nx, ρ)
  | (some (some v), ρ) => ret (.ret v, ρ)
def whileLoop (t : Env → M Bool) (body : Env → M (Option (Option RV) × Env)) : Nat → Env → M (Option (Option RV) × Env)
  | 0, _ => fail
  | n + 1, ρ => bnd (t ρ) fun b => if b = true then bnd (body ρ) fun p => match p with
      | (some a, ρ') => ret (some a, ρ')
      | (none, ρ') => whileLoop t body n ρ'
    else ret (none, ρ)
def seqS (a : Env → M (Fl × Env)) (b : Env → M (Fl × Env)) : Env → M (Fl × Env) := fun ρ => bnd (a ρ) fun p => match p with
  | (.nx, ρ') => b ρ'
  | q => ret q
mutual
def evS (T : Tx) : MS → Env → M (Fl × Env)
  | .asg i c e, ρ => bnd (evE T e ρ) fun v => bnd (lay c v) fun x => bnd (lift (setV i x ρ)) fun ρ' => ret (.nx, ρ')
  | .asgT ts e, ρ => bnd (evE T e ρ) fun v => bnd (lift v.toD) fun d => bnd (lift (setTg (.tup ts) d ρ)) fun ρ' => ret (.nx, ρ')
  | .par is es, ρ => bnd (evL T es ρ) fun vs => bnd (parSet is vs ρ) fun ρ' => ret (.nx, ρ')
  | .subA o i e, ρ => bnd (evE T e ρ) fun x => bnd (lift x.frz) fun x' => bnd (evE T o ρ) fun ov => bnd (evE T i ρ) fun iv => bnd (putItem ov iv (.v x')) fun _ => ret (.nx, ρ)
  | .aug i op e, ρ => match ρ[i]? with
    | some (some (.d x)) => bnd (evE T e ρ) fun y => bnd (look1 y) fun y => bnd (lift (augD op x y)) fun z => bnd (lift (setV i (.d z) ρ)) fun ρ' => ret (.nx, ρ')
    | _ => fail
  | .augS o i op e, ρ => bnd (evE T o ρ) fun ov => bnd (evE T i ρ) fun iv => bnd (lookAll [ov, iv]) fun ds => match ds with
    | [od, id] => bnd (lift (getD od id)) fun x => bnd (evE T e ρ) fun y => bnd (look1 y) fun y => bnd (lift (augD op x y)) fun z => bnd (putItem ov iv (dv z)) fun _ => ret (.nx, ρ)
    | _ => fail
  | .attrA o f c e, ρ => bnd (evE T e ρ) fun v => bnd (lay c v) fun x => bnd (evE T o ρ) fun ov => bnd (putAttr ov f x) fun _ => ret (.nx, ρ)
  | .ex e, ρ => bnd (evE T e ρ) fun _ => ret (.nx, ρ)
  | .ret e, ρ => bnd (evE T e ρ) fun v => ret (.ret v, ρ)
  | .ifs t a b, ρ => bnd (testOf (evE T t ρ)) fun k => if k = true then evB T a ρ else evB T b ρ
  | .loop tg it body, ρ => bnd (evI T it ρ) fun w => bnd (forWalk (fun x ρ => match setTg tg x ρ with
      | some ρ' => turnOf (evB T body ρ')
      | none => fail) w ρ) endLoop
  | .whil t body, ρ => bnd (whileLoop (fun ρ => testOf (evE T t ρ)) (fun ρ => turnOf (evB T body ρ)) turns ρ) endLoop
  | .rais c es, ρ => bnd (evL T es ρ) fun _ => fail
  | .pass, ρ => ret (.nx, ρ)
  | .brk, ρ => ret (.brk, ρ)
  | .cont, ρ => ret (.cont, ρ)
def evB (T : Tx) : List MS → Env → M (Fl × Env)
  | [], ρ => ret (.nx, ρ)
  | s :: ss, ρ => bnd (evS T s ρ) fun p => match p with
    | (.nx, ρ') => evB T ss ρ'
    | q => ret q
end

/-! ### a def called -/
def binds : List Bool → List RV → M (List Val)
  | [], [] => ret []
  | c :: cs, v :: vs => bnd (lay c v) fun x => bnd (binds cs vs) fun xs => ret (x :: xs)
  | _, _ => fail
/-- what is left of a def's own cells: none, where nothing else holds one -/
def leave (n : Nat) (esc : List Nat) (v : RV) : M RV := fun S =>
  if S.esc.all (fun k => decide (n ≤ k)) = true then match v with
    | .v (.d x) => .ok (dv x) ⟨S.cells.take n, esc⟩
    | .tmp o => match o.toD with
      | some _ => .ok (.tmp o) ⟨S.cells.take n, esc⟩
      | none => .ok v ⟨S.cells, S.esc ++ esc⟩
    | .v (.r i) => if i < n then .ok v ⟨S.cells.take n, esc⟩ else match S.cells[i]? with
      | some o => match o.toD with
        | some _ => .ok (.tmp o) ⟨S.cells.take n, esc⟩
        | none => .ok v ⟨S.cells, S.esc ++ esc⟩
      | none => .err
  else .ok v ⟨S.cells, S.esc ++ esc⟩
def callDef (T : Tx) (df : Def) (as : List RV) : M RV := fun S =>
  match bnd (binds df.params as) (fun xs => bnd (evB T df.body (xs.map some ++ List.replicate (df.slots - xs.length) none)) fun p => match p with
    | (.nx, _) => ret (dv .non)
    | (.ret v, _) => ret v
    | _ => fail) { S with esc := [] } with
  | .ok v S' => leave S.cells.length S.esc v S'
  | .exc e S' => .exc e ⟨S'.cells, S'.esc ++ S.esc⟩
  | .err => .err
/-- a text by what its defs are; n: how deep calls may go -/
structure Txt where
  glob : Str → Option D
  defs : FId → Option Def
  chg : Nat → Bool
def Txt.at (X : Txt) : Nat → Tx
  | 0 => ⟨X.glob, fun _ _ => fail, fun _ => false, X.chg⟩
  | n + 1 => ⟨X.glob, fun f as => match X.defs f with
    | some df => callDef (X.at n) df as
    | none => fail, fun f => (X.defs f).isSome, X.chg⟩
end
end Pk
end
section
set_option Elab.async false
set_option linter.all false
set_option maxRecDepth 100000
/-! From the text's syntax to the small language. -/
namespace Pk
open PySem

/-- what is translated only when its node is proved -/
def later : Bool := false
/-- what the translation leans on: the classes' names, the attributes' names, the defs' parameters with their defaults, the names of what changes -/

structure KwP where
  n : Nat
  ks : List Str
  ns : List Int

def kwNames : List Keyword → Option (List Str)
  | [] => some []
  | ⟨some k, _, _⟩ :: r => (kwNames r).map (k :: ·)
  | ⟨none, _, _⟩ :: _ => none
structure Tab where
  cls : List Str
  atts : List Str
  funs : List (Str × (List Str × List D))
  inits : List (Str × (List Str × List D))
  meths : List (Str × (List Str × List D))
  muts : List Str
  duns : List Str
  fmut : List Str
  kfn : List (Str × (KwP × List D))
  kin : List (Str × (KwP × List D))
def kwFind (l : List (Str × (KwP × List D))) (f : Str) (n : Nat) (ks : List Str) : Option (KwP × List D) := (l.find? fun p => decide (p.1 = f ∧ p.2.1.n = n ∧ p.2.1.ks = ks)).map (·.2)

def litC : Const → Option D
  | .none => some .non
  | .bool b => some (.bl b)
  | .int i => some (.int i)
  | .str s => some (.str s)
  | _ => none
def placeOf (N : List Str) (x : Str) : Option Nat := N.findIdx? (· == x)
def tyTab : List (Str × Ty) := [("int", .int), ("bool", .bool), ("str", .str), ("tuple", .tuple), ("list", .list), ("dict", .dict)]
def tyOf (T : Tab) (x : Str) : Option Ty := match tyTab.find? (·.1 == x) with
  | some p => some p.2
  | none => (placeOf T.cls x).map .own
def bfTab : List (Str × Bf) := [("len", .len), ("all", .all), ("any", .any), ("sum", .sum), ("sorted", .sorted), ("list", .list), ("tuple", .tuple), ("dict", .dict), ("str", .str), ("repr", .repr), ("int", .int), ("max", .max), ("min", .min), ("divmod", .divmod)]
/-- built-ins that ask an object's own class -/
def obOf (T : Tab) (x : Str) : Option (Bf × Str) :=
  if (x == "len" && T.duns.contains "__len__") = true then some (.len, "__len__") else if (x == "repr" && T.duns.contains "__repr__") = true then some (.repr, "__repr__") else if (x == "str" && T.duns.contains "__str__") = true then some (.str, "__str__") else none
def bfOf (x : Str) : Option Bf := (bfTab.find? (·.1 == x)).map (·.2)
def bmTab : List (Str × Bm) := [("append", .append), ("pop", .pop), ("extend", .extend), ("clear", .clear), ("insert", .insert), ("index", .index), ("count", .count), ("join", .join), ("split", .split), ("partition", .partition), ("get", .get), ("find", .find)]
def bmOf (x : Str) : Option Bm := (bmTab.find? (·.1 == x)).map (·.2)
/-- a name's kind -/
inductive NK where
  | slot (i : Nat)
  | glob
def kindOf (N : List Str) (sc : Scope) (x : Str) : Option NK := if (x == "__debug__" || x == "__classdict__" || x == "__name__") = true then none else match sc.names.lookup x with
  | some .local => (placeOf N x).map .slot
  | some .cell => (placeOf N x).map .slot
  | some .free => (placeOf N x).map .slot
  | some .globalImplicit => some .glob
  | _ => none
/-- a target's slot, of a name that is the def's own -/
def ownSlot (N : List Str) (sc : Scope) (x : Str) : Option Nat := match sc.names.lookup x with
  | some .local => placeOf N x
  | some .cell => placeOf N x
  | _ => none
def seqO {α : Type} : List (Option α) → Option (List α)
  | [] => some []
  | some a :: r => (seqO r).map (a :: ·)
  | none :: _ => none
/-- the defaults that fill up behind n written values -/
def fills (ps : List Str) (ds : List D) (n : Nat) : Option (List D) := if n ≤ ps.length ∧ ps.length ≤ n + ds.length then some (ds.drop (n + ds.length - ps.length)) else none
def trTg (N : List Str) (sc : Scope) : Nat → Expr → Option Tg
  | 0, _ => none
  | n + 1, .Name x _ => (ownSlot N sc x).map .v
  | n + 1, .Tuple es _ _ => (seqO (es.map (trTg N sc n))).map .tup
  | _, _ => none
def foldB (f : ME → ME → ME) : List ME → Option ME
  | [] => none
  | [a] => some a
  | a :: r => (foldB f r).map (f a)
/-- an expression that stands for a value by itself -/
def nice : Expr → Bool
  | .Constant _ _ _ | .Name _ _ | .Tuple _ _ _ | .List _ _ | .Dict _ _ _ | .BinOp _ _ _ _ | .UnaryOp _ _ _ | .BoolOp _ _ _ | .IfExp _ _ _ _ | .Compare _ _ _ _ | .Subscript _ _ _ | .Attribute _ _ _ | .ListComp _ _ _ _ | .Call _ _ _ _ | .FormattedValue _ _ _ _ | .JoinedStr _ _ => true
  | _ => false
def isCst : Expr → Bool
  | .Constant _ _ _ => true
  | _ => false
/-- may stand as a test -/
def tOk : Expr → Bool
  | .IfExp _ _ _ _ => false
  | _ => true
/-- no call of a name without arguments -/
def baseOk : Expr → Bool
  | .Call (.Name _ _) [] _ _ => false
  | _ => true
/-- a name that the text itself does not bind -/
def free (T : Tab) (x : Str) : Bool := !(T.cls.contains x || (T.funs.lookup x).isSome)
/-- a block's own names with their places -/
def ownOf (N : List Str) (scope : Scope) : List (Str × Nat) := scope.names.filterMap fun y => match y.2 with
  | .local => (placeOf N y.1).map fun i => (y.1, i)
  | .cell => (placeOf N y.1).map fun i => (y.1, i)
  | _ => none
/-- a global name -/
def isGl (N : List Str) (sc : Scope) (x : Str) : Bool := match kindOf N sc x with
  | some .glob => true
  | _ => false
def isTup : Expr → Bool
  | .Tuple _ _ _ => true
  | _ => false
/-- pairs are unpacked at once -/
def itOk (tg : Expr) : It → Bool
  | .zip _ => isTup tg
  | .enum _ _ => isTup tg
  | .items _ => isTup tg
  | _ => true
mutual
def tgSlots : Tg → List Nat
  | .v i => [i]
  | .tup ts => tgSlotsL ts
def tgSlotsL : List Tg → List Nat
  | [] => []
  | t :: ts => tgSlots t ++ tgSlotsL ts
end
mutual
def trE (T : Tab) (N : List Str) : Nat → Scope → Expr → Option ME
  | 0, _, _ => none
  | n + 1, sc, e => match e with
    | .Constant c _ _ => (litC c).map .c
    | .Name x _ => match kindOf N sc x with
      | some (.slot i) => some (.v i)
      | some .glob => some (.g x)
      | none => none
    | .Tuple es _ _ => (trL T N n sc es).map .tup
    | .List es _ => (trL T N n sc es).map .lst
    | .Dict ks vs _ => match seqO ks with
      | some ks => if ((ks.all isCst && decide (ks.length ≤ 15)) && later) = true then match trL T N n sc ks, trL T N n sc vs with
        | some ks, some vs => some (.dic ks vs)
        | _, _ => none
        else none
      | none => none
    | .BinOp a op b _ => match trE T N n sc a, trE T N n sc b with
      | some a, some b => some (.bin op a b)
      | _, _ => none
    | .UnaryOp .USub a _ => (trE T N n sc a).map .neg
    | .UnaryOp .Not a _ => if tOk a = true then (trE T N n sc a).map .not else none
    | .BoolOp .And es _ => if es.all tOk = true then (trL T N n sc es).bind (foldB .and) else none
    | .BoolOp .Or es _ => if es.all tOk = true then (trL T N n sc es).bind (foldB .or) else none
    | .IfExp t a b _ => if tOk t = true then match trE T N n sc t, trE T N n sc a, trE T N n sc b with
      | some t, some a, some b => some (.ite t a b)
      | _, _, _ => none
      else none
    | .Compare a [op] [b] _ => match trE T N n sc a, trE T N n sc b with
      | some a, some b => some (.cmp op a b)
      | _, _ => none
    | .Compare a [op, op'] [b, c] _ => match trE T N n sc a, trE T N n sc b, trE T N n sc c with
      | some a, some b, some c => some (.chn op op' a b c)
      | _, _, _ => none
    | .Subscript a i _ => trSub T N n sc a i
    | .Attribute o f _ => match baseOk o, trE T N n sc o, placeOf T.atts f with
      | true, some o, some f => some (.attr o f)
      | _, _, _ => none
    | .ListComp elt [⟨tg, it, ifs, 0⟩] scope _ => if L2.blkC N sc scope (ownOf N scope) = true then trComp T N n sc scope elt tg it ifs else none
    | .Call (.Name f _) as [] _ => match kindOf N sc f with
      | some .glob => if (f == "super") = true then none else trCall T N n sc f as
      | _ => none
    | .Call (.Name f _) as (kw :: kws) _ => match kindOf N sc f, kwNames (kw :: kws), trL T N n sc as, trL T N n sc ((kw :: kws).map (·.value)) with
      | some .glob, some ks, some ms, some zs => match placeOf T.cls f with
        | some c => (kwFind T.kin f as.length ks).map fun p => .mk c (ms ++ zs) (.scr p.1.ns :: p.2)
        | none => (kwFind T.kfn f as.length ks).map fun p => .call f (ms ++ zs) (.scr p.1.ns :: p.2)
      | _, _, _, _ => none
    | .Call (.Attribute o m ap) as kws cp => if (baseOk o && decide (as.length < 30) && (ap.endLine == cp.line)) = false then none else match bmOf m, kws with
      | some m, [] => match trE T N n sc o, trL T N n sc as with
        | some o, some as => some (.bm o m as)
        | _, _ => none
      | some _, _ :: _ => none
      | none, [] => match T.meths.lookup m with
        | some (ps, ds) => match trE T N n sc o, trL T N n sc as, fills ps ds as.length with
          | some o, some as, some p => some (.meth o m as p)
          | _, _, _ => none
        | none => none
      | none, _ :: _ => none
    | .FormattedValue e c none _ => if c = -1 then (trE T N n sc e).map (.fmt false) else if c = 114 then (trE T N n sc e).map (.fmt true) else none
    | .JoinedStr (e :: e' :: es) _ => (trL T N n sc (e :: e' :: es)).map .jstr
    | _ => none
def trSub (T : Tab) (N : List Str) : Nat → Scope → Expr → Expr → Option ME
  | 0, _, _, _ => none
  | n + 1, sc, a, i => match i with
    | .Slice none none (some (.UnaryOp .USub (.Constant (.int 1) _ _) _)) _ => (trE T N n sc a).map .rev
    | .Slice lo hi none _ => match trE T N n sc a, trO T N n sc lo, trO T N n sc hi with
      | some a, some l, some h => some (.slc a l h lo.isSome hi.isSome)
      | _, _, _ => none
    | i => match trE T N n sc a, trE T N n sc i with
      | some a, some i => some (.sub a i)
      | _, _ => none
def trComp (T : Tab) (N : List Str) : Nat → Scope → Scope → Expr → Expr → Expr → List Expr → Option ME
  | 0, _, _, _, _, _, _ => none
  | n + 1, sc, scope, elt, tg, it, ifs => match trTg N scope n tg, trI T N n sc it, trE T N n (L2.relS scope sc) elt with
    | some tg', some it', some elt => if ((tgSlots tg').all (fun i => ((ownOf N scope).map (·.2)).contains i) && itOk tg it') = true then match ifs with
      | [] => some (.comp elt tg' ((ownOf N scope).map (·.2)) it' (.c (.bl true)))
      | [t] => if tOk t = true then (trE T N n (L2.relS scope sc) t).map (.comp elt tg' ((ownOf N scope).map (·.2)) it' ·) else none
      | _ => none
      else none
    | _, _, _ => none
def trCall (T : Tab) (N : List Str) : Nat → Scope → Str → List Expr → Option ME
  | 0, _, _, _ => none
  | n + 1, sc, f, as => match placeOf T.cls f with
    | some c => match T.inits.lookup f with
      | some (ps, ds) => match trL T N n sc as, fills ps ds as.length with
        | some as, some p => some (.mk c as p)
        | _, _ => none
      | none => none
    | none => match T.funs.lookup f with
      | some (ps, ds) => match trL T N n sc as, fills ps ds as.length with
        | some as, some p => some (.call f as p)
        | _, _ => none
      | none => trBf T N n sc f as
def trBf (T : Tab) (N : List Str) : Nat → Scope → Str → List Expr → Option ME
  | 0, _, _, _ => none
  | n + 1, sc, f, as => match as with
    | [.Call (.Name g _) [a] [] _] => if (f == "sorted" && g == "set" && isGl N sc g) = true then (trE T N n sc a).map fun a => .bf .sortedSet [a]
        else if (f == "len" && g == "set" && isGl N sc g) = true then (trE T N n sc a).map fun a => .bf .lenSet [a]
        else trBf2 T N n sc f as
    | [.Call (.Attribute o m _) [] [] _] => if ((f == "sorted" && m == "items") && later) = true then (trE T N n sc o).map fun a => .bf .sortedItems [a]
        else if ((f == "list" && m == "values") && later) = true then (trE T N n sc o).map fun a => .bf .listValues [a]
        else trBf2 T N n sc f as
    | [a, .Name t _] => if (f == "isinstance" && isGl N sc t) = true then match trE T N n sc a, tyOf T t with
        | some a, some t => some (.isi a [t])
        | _, _ => none
        else trBf2 T N n sc f as
    | [a, .Tuple ts _ _] => if (f == "isinstance" && decide (ts.length < 30)) = true then match trE T N n sc a, seqO (ts.map fun t => match t with
          | .Name t _ => if isGl N sc t = true then tyOf T t else none
          | _ => none) with
        | some a, some ts => some (.isi a ts)
        | _, _ => none
        else trBf2 T N n sc f as
    | _ => trBf2 T N n sc f as
def trBf2 (T : Tab) (N : List Str) : Nat → Scope → Str → List Expr → Option ME
  | 0, _, _, _ => none
  | n + 1, sc, f, as => match obOf T f, as with
    | some (b, m), [a] => (trE T N n sc a).map fun a => .ob b m a
    | _, _ => match bfOf f, trL T N n sc as with
      | some b, some as => some (.bf b as)
      | _, _ => none
def trL (T : Tab) (N : List Str) : Nat → Scope → List Expr → Option (List ME)
  | 0, _, _ => none
  | n + 1, _, [] => some []
  | n + 1, sc, e :: es => match trE T N n sc e, trL T N n sc es with
    | some e, some es => some (e :: es)
    | _, _ => none
def trO (T : Tab) (N : List Str) : Nat → Scope → Option Expr → Option ME
  | 0, _, _ => none
  | n + 1, _, none => some (.c .non)
  | n + 1, sc, some e => trE T N n sc e
def trI (T : Tab) (N : List Str) : Nat → Scope → Expr → Option It
  | 0, _, _ => none
  | n + 1, sc, e => match e with
    | .Call (.Name f _) as [] _ => match kindOf N sc f with
      | some .glob =>
        if (f == "range") = true then if as.length = 1 ∨ as.length = 2 then (trL T N n sc as).map .range else none
        else if (f == "zip") = true then if as.length = 2 then (trL T N n sc as).map .zip else none
        else if (f == "enumerate") = true then match trL T N n sc as with
          | some [a] => some (.enum a 0)
          | _ => none
        else (trE T N n sc e).map .e
      | _ => none
    | .Call (.Name f _) [a] [⟨some k, .Constant (.int i) _ _, _⟩] _ => if (f == "enumerate" && k == "start" && isGl N sc f) = true then (trE T N n sc a).map (.enum · i) else (trE T N n sc e).map .e
    | .Call (.Attribute o m _) [] [] _ => if (m == "items") = true then (trE T N n sc o).map .items else if (m == "values") = true then (trE T N n sc o).map .values else (trE T N n sc e).map .e
    | e => (trE T N n sc e).map .e
end

def isComp : Expr → Bool
  | .ListComp _ _ _ _ => true
  | _ => false
def nmSlot (N mu : List Str) (sc : Scope) : Expr → Option (Nat × Bool)
  | .Name x _ => (ownSlot N sc x).map fun i => (i, mu.contains x)
  | _ => none
/-- names stored from the right -/
def swapped (sc : Scope) (ts es : List Expr) : Bool := match ts, es with
  | [.Name x px, .Name y py], [_, _] => sc.names.lookup x == some .local && sc.names.lookup y == some .local && py.line == px.line && x != y && !(es.all (foldedForSure 8)) && !(es.all (constantsAlone 8))
  | [.Name x px, .Name y py, .Name z pz], [_, _, _] => sc.names.lookup x == some .local && sc.names.lookup y == some .local && sc.names.lookup z == some .local && py.line == px.line && pz.line == px.line && x != y && x != z && y != z && !(es.all (foldedForSure 8)) && !(es.all (constantsAlone 8))
  | _, _ => false
/-- names stored from the left -/
def unswapped (sc : Scope) (ts es : List Expr) : Bool := match ts, es with
  | [.Name x _, .Name y _], [_, _] => sc.names.lookup x == some .cell || sc.names.lookup y == some .cell
  | [.Name x _, .Name y _, .Name z _], [_, _, _] => sc.names.lookup x == some .cell || sc.names.lookup y == some .cell || sc.names.lookup z == some .cell
  | ts, _ => decide (3 < ts.length)
/-- a comprehension laid under a name of the def's own, on one line -/
def compSet (sc : Scope) (x : Str) (px : Pos) : Expr → Bool
  | .ListComp _ _ scope pos => sc.names.lookup x == some .local && px.line == pos.line && !(scope.names.any fun (n, k) => n == x && (k == .local || k == .cell))
  | _ => true
mutual
/-- mu: the names whose objects change -/
def trS (T : Tab) (N mu : List Str) : Nat → Scope → Stmt → Option MS
  | 0, _, _ => none
  | n + 1, sc, s => some ((trS1 T N mu n sc s).getD (.rais 0 []))
def trS1 (T : Tab) (N mu : List Str) : Nat → Scope → Stmt → Option MS
  | 0, _, _ => none
  | n + 1, sc, s => match s with
    | .Assign [t] e _ => trA T N mu n sc t e
    | .AugAssign (.Name x _) op e _ => match ownSlot N sc x, trE T N n sc e with
      | some i, some e => some (.aug i op e)
      | _, _ => none
    | .AugAssign (.Subscript o i _) op e _ => match trE T N n sc o, trE T N n sc i, trE T N n sc e with
      | some o, some i, some e => if later = true then some (.augS o i op e) else none
      | _, _, _ => none
    | .Expr e _ => if isComp e = true then none else (trE T N n sc e).map .ex
    | .Return none _ => some (.ret (.c .non))
    | .Return (some e) _ => (trE T N n sc e).map .ret
    | .If t a b _ => if tOk t = true then match trE T N n sc t, trB T N mu n sc a, trB T N mu n sc b with
      | some t, some a, some b => some (.ifs t a b)
      | _, _, _ => none
      else none
    | .For tg it body [] _ => match trTg N sc n tg, trI T N n sc it, trB T N mu n sc body with
      | some tg', some it', some body => if itOk tg it' = true then some (.loop tg' it' body) else none
      | _, _, _ => none
    | .While t body [] _ => if tOk t = true then match trE T N n sc t, trB T N mu n sc body with
      | some t, some body => some (.whil t body)
      | _, _ => none
      else none
    | .Pass _ => some .pass
    | .Break _ => some .brk
    | .Continue _ => some .cont
    | _ => none
def trA (T : Tab) (N mu : List Str) : Nat → Scope → Expr → Expr → Option MS
  | 0, _, _, _ => none
  | n + 1, sc, t, e => match t with
    | .Name x px => if compSet sc x px e = true then match ownSlot N sc x, trE T N n sc e with
      | some i, some e => some (.asg i (mu.contains x) e)
      | _, _ => none
      else none
    | .Tuple ts k p => match e with
      | .Tuple es _ _ => if (swapped sc ts es || unswapped sc ts es) = true then match seqO (ts.map (nmSlot N mu sc)), trL T N n sc es with
        | some is, some es => if is.length = es.length ∧ is.length ≤ 20 then some (.par is es) else none
        | _, _ => none
        else none
      | e => match trTg N sc n (.Tuple ts k p), trE T N n sc e with
        | some (.tup ts), some e => some (.asgT ts e)
        | _, _ => none
    | .Subscript o i _ => if isComp e = true then none else match trE T N n sc o, trE T N n sc i, trE T N n sc e with
      | some o, some i, some e => some (.subA o i e)
      | _, _, _ => none
    | .Attribute o f _ => if isComp e = true then none else match trE T N n sc o, placeOf T.atts f, trE T N n sc e with
      | some o, some i, some e => some (.attrA o i (T.fmut.contains f) e)
      | _, _, _ => none
    | _ => none
def trB (T : Tab) (N mu : List Str) : Nat → Scope → List Stmt → Option (List MS)
  | 0, _, _ => none
  | n + 1, _, [] => some []
  | n + 1, sc, s :: ss => match trS T N mu n sc s, trB T N mu n sc ss with
    | some s, some ss => some (s :: ss)
    | _, _ => none
end
end Pk
end
section
set_option Elab.async false
set_option linter.all false
set_option maxRecDepth 100000
/-! How data lie in the heap. -/
namespace Pk
open PySem L2

/-- what the ids stand for -/
structure Wd where
  K : PySem.W.Frag
  cls : Nat → Option Addr
  att : Nat → Option Str
  inj : ∀ i j x, att i = some x → att j = some x → i = j

def dKey : D → Option Key
  | .int i => some (.inl i)
  | .str s => some (.inr s)
  | _ => none
/-- the script: it stands as it is -/
def ScrAt (K : PySem.W.Frag) (H : Hp) (a : Addr) (xs : List V) : Prop := (∃ o, H a = some (.frz o (.lst xs))) ∨
  ∃ (o : Obj) (its : Array Value) (n : Nat), K.lookup a = some o ∧ o.cls = .type "list" ∧ o.dict = none ∧ o.data = .seq its n ∧ its.size ≤ sizeLine ∧ Vals xs its.toList
theorem ScrAt.sq {K : PySem.W.Frag} {H : Hp} {a : Addr} {xs : List V} (h : ScrAt K H a xs) : SqL K H a xs := h.elim (fun e => .inl (.inr e)) .inr
mutual
/-- the value v is the data d; no object of it that may change stands in Z -/
inductive RepD (W : Wd) (Z : Addr → Prop) (H : Hp) : V → D → Prop
  | non : RepD W Z H .non .non
  | bl (b : Bool) : RepD W Z H (.bl b) (.bl b)
  | int (i : Int) : RepD W Z H (.int i) (.int i)
  | str (s : Str) : RepD W Z H (.str s) (.str s)
  | tup {a : Addr} {vs : List V} {ds : List D} : SqT W.K H a vs → RepL W Z H vs ds → RepD W Z H (.ref a) (.tup ds)
  | lst {a : Addr} {vs : List V} {ds : List D} : ¬ Z a → H a = some (.lst vs) → RepL W Z H vs ds → RepD W Z H (.ref a) (.lst ds)
  | scr {a : Addr} {ns : List Int} : ScrAt W.K H a (ns.map V.int) → RepD W Z H (.ref a) (.scr ns)
  | dic {a : Addr} {es : List (Key × V)} {kvs : List (D × D)} : ¬ Z a → Rd H a (.dK es) → RepK W Z H es kvs → RepD W Z H (.ref a) (.dic kvs)
  | ins {a C dx : Addr} {c : Nat} {gs : List (Str × V)} {fs : List (Nat × D)} : ¬ Z a → W.cls c = some C → H a = some (.ins C dx gs) → RepF W Z H gs fs → RepD W Z H (.ref a) (.ins c fs)
inductive RepL (W : Wd) (Z : Addr → Prop) (H : Hp) : List V → List D → Prop
  | nil : RepL W Z H [] []
  | cons {v : V} {d : D} {vs : List V} {ds : List D} : RepD W Z H v d → RepL W Z H vs ds → RepL W Z H (v :: vs) (d :: ds)
inductive RepK (W : Wd) (Z : Addr → Prop) (H : Hp) : List (Key × V) → List (D × D) → Prop
  | nil : RepK W Z H [] []
  | cons {k : Key} {v : V} {l d : D} {es : List (Key × V)} {kvs : List (D × D)} : dKey l = some k → RepD W Z H v d → RepK W Z H es kvs → RepK W Z H ((k, v) :: es) ((l, d) :: kvs)
inductive RepF (W : Wd) (Z : Addr → Prop) (H : Hp) : List (Str × V) → List (Nat × D) → Prop
  | nil : RepF W Z H [] []
  | cons {f : Str} {v : V} {i : Nat} {d : D} {gs : List (Str × V)} {fs : List (Nat × D)} : W.att i = some f → RepD W Z H v d → RepF W Z H gs fs → RepF W Z H ((f, v) :: gs) ((i, d) :: fs)
end
abbrev Zno : Addr → Prop := fun _ => False
/-- what never changes -/
def Still : HO → Prop
  | .lst _ => False
  | .dK _ => False
  | .ins _ _ _ => False
  | _ => True

/-- what is wanted of a later heap: what stands outside Z is kept, what never changes is kept everywhere, Z' holds nothing else that stood -/
structure Keeps (Z Z' : Addr → Prop) (H H' : Hp) : Prop where
  kp : ∀ a o, ¬ Z a → H a = some o → H' a = some o
  tp : ∀ a o, H a = some o → Still o → H' a = some o
  nw : ∀ a, Z' a → ¬ Z a → H a = none
section
variable {W : Wd} {Z Z' : Addr → Prop} {H H' : Hp}
theorem SqT_keep {K : PySem.W.Frag} {a : Addr} {vs : List V} (tp : ∀ a o, H a = some o → Still o → H' a = some o) (h : SqT K H a vs) : SqT K H' a vs := by
  rcases h with (h | ⟨o, h⟩) | h
  · exact .inl (.inl (tp _ _ h trivial))
  · exact .inl (.inr ⟨o, tp _ _ h trivial⟩)
  · exact .inr h
theorem Rd_keep {a : Addr} {u : HO} (kp : ∀ o, H a = some o → H' a = some o) (h : Rd H a u) : Rd H' a u := by
  rcases h with h | ⟨o, h⟩
  · exact .inl (kp _ h)
  · exact .inr ⟨o, kp _ h⟩
theorem Rd_some {a : Addr} {u : HO} (h : Rd H a u) : ∃ o, H a = some o := by
  rcases h with h | ⟨o, h⟩
  · exact ⟨_, h⟩
  · exact ⟨_, h⟩
theorem Keeps.out (k : Keeps Z Z' H H') {a : Addr} {o : HO} (h : H a = some o) (n : ¬ Z a) : ¬ Z' a := fun z => by
  have e := k.nw a z n
  rw [h] at e
  cases e
mutual
theorem RepD.mono (k : Keeps Z Z' H H') : ∀ {d : D} {v : V}, RepD W Z H v d → RepD W Z' H' v d
  | .non, _, h => by cases h; exact .non
  | .bl _, _, h => by cases h; exact .bl _
  | .int _, _, h => by cases h; exact .int _
  | .str _, _, h => by cases h; exact .str _
  | .tup _, _, h => by cases h with | tup h1 h2 => exact .tup (SqT_keep k.tp h1) (RepL.mono k h2)
  | .lst _, _, h => by
    cases h with
    | lst h0 h1 h2 => exact .lst (k.out h1 h0) (k.kp _ _ h0 h1) (RepL.mono k h2)
  | .dic _, _, h => by cases h with | dic h0 h1 h2 => exact .dic (let ⟨_, e⟩ := Rd_some h1; k.out e h0) (Rd_keep (fun o => k.kp _ o h0) h1) (RepK.mono k h2)
  | .ins _ _, _, h => by cases h with | ins h0 hc h1 h2 => exact .ins (k.out h1 h0) hc (k.kp _ _ h0 h1) (RepF.mono k h2)
  | .exc _ _, _, h => by cases h
  | .fn _, _, h => by cases h
  | .scr _, _, h => by
    cases h with
    | scr h1 => exact .scr (h1.elim (fun ⟨o, e⟩ => .inl ⟨o, k.tp _ _ e trivial⟩) .inr)
theorem RepL.mono (k : Keeps Z Z' H H') : ∀ {ds : List D} {vs : List V}, RepL W Z H vs ds → RepL W Z' H' vs ds
  | [], _, h => by cases h; exact .nil
  | _ :: _, _, h => by cases h with | cons h1 h2 => exact .cons (RepD.mono k h1) (RepL.mono k h2)
theorem RepK.mono (k : Keeps Z Z' H H') : ∀ {ds : List (D × D)} {vs : List (Key × V)}, RepK W Z H vs ds → RepK W Z' H' vs ds
  | [], _, h => by cases h; exact .nil
  | (_, _) :: _, _, h => by cases h with | cons h0 h1 h2 => exact .cons h0 (RepD.mono k h1) (RepK.mono k h2)
theorem RepF.mono (k : Keeps Z Z' H H') : ∀ {ds : List (Nat × D)} {vs : List (Str × V)}, RepF W Z H vs ds → RepF W Z' H' vs ds
  | [], _, h => by cases h; exact .nil
  | (_, _) :: _, _, h => by cases h with | cons h0 h1 h2 => exact .cons h0 (RepD.mono k h1) (RepF.mono k h2)
end
/-- all is kept, only new things come -/
theorem Keeps.same (s : Same H H') : Keeps Z Z H H' := ⟨fun a o _ e => s a o e, fun a o e _ => s a o e, fun _ z n => (n z).elim⟩
/-- fewer places are out of bounds -/
theorem Keeps.less (h : ∀ a, Z' a → Z a) : Keeps Z Z' H H := ⟨fun _ _ _ e => e, fun _ _ e _ => e, fun a z n => (n (h a z)).elim⟩
theorem RepL.length {W : Wd} : ∀ {ds : List D} {vs : List V}, RepL W Z H vs ds → vs.length = ds.length
  | [], _, h => by cases h; rfl
  | _ :: _, _, h => by cases h with | cons _ h2 => rw [List.length_cons, List.length_cons, RepL.length h2]
theorem RepL.append {W : Wd} : ∀ {ds es : List D} {vs us : List V}, RepL W Z H vs ds → RepL W Z H us es → RepL W Z H (vs ++ us) (ds ++ es)
  | [], _, _, _, h, g => by cases h; exact g
  | _ :: _, _, _, _, h, g => by cases h with | cons h1 h2 => exact .cons h1 (RepL.append h2 g)
theorem RepL.get {W : Wd} : ∀ {ds : List D} {vs : List V} {i : Nat} {d : D}, RepL W Z H vs ds → ds[i]? = some d → ∃ v, vs[i]? = some v ∧ RepD W Z H v d
  | [], _, _, _, _, e => by simp at e
  | _ :: _, _, 0, _, h, e => by
    cases h with
    | cons h1 _ =>
      simp at e
      subst e
      exact ⟨_, rfl, h1⟩
  | _ :: _, _, i + 1, _, h, e => by
    cases h with
    | cons _ h2 =>
      obtain ⟨v, e1, r⟩ := RepL.get (i := i) h2 (by simpa using e)
      exact ⟨v, by simpa using e1, r⟩
theorem RepL.getV {W : Wd} {ds : List D} {vs : List V} {i : Nat} {v : V} (h : RepL W Z H vs ds) (e : vs[i]? = some v) : ∃ d, ds[i]? = some d ∧ RepD W Z H v d := by
  have hl := h.length
  have hi : i < ds.length := by
    have := (List.getElem?_eq_some_iff.mp e).1
    omega
  obtain ⟨u, e1, r⟩ := h.get (List.getElem?_eq_getElem hi)
  rw [e] at e1
  cases e1
  exact ⟨_, List.getElem?_eq_getElem hi, r⟩
theorem RepL.setAt {W : Wd} : ∀ {ds : List D} {vs : List V} {d : D} {v : V}, RepL W Z H vs ds → RepD W Z H v d → ∀ i : Nat, RepL W Z H (vs.set i v) (ds.set i d)
  | [], _, _, _, h, _, _ => by cases h; exact .nil
  | _ :: _, _, _, _, h, r, 0 => by cases h with | cons h1 h2 => exact .cons r h2
  | _ :: _, _, _, _, h, r, i + 1 => by cases h with | cons h1 h2 => exact .cons h1 (RepL.setAt h2 r i)
theorem RepL.rev {W : Wd} : ∀ {ds : List D} {vs : List V}, RepL W Z H vs ds → RepL W Z H vs.reverse ds.reverse
  | [], _, h => by cases h; exact .nil
  | _ :: _, _, h => by
    cases h with
    | cons h1 h2 =>
      rw [List.reverse_cons, List.reverse_cons]
      exact (RepL.rev h2).append (.cons h1 .nil)
theorem RepL.snoc {W : Wd} {ds : List D} {vs : List V} {d : D} {v : V} (h : RepL W Z H vs ds) (g : RepD W Z H v d) : RepL W Z H (vs ++ [v]) (ds ++ [d]) := h.append (.cons g .nil)
end

/-! ### places -/
/-- where a run stands: the objects that only one holds, the cells, the heap -/
structure Lo where
  Z : Addr → Prop
  m : List Addr
  H : Hp
def RepV (W : Wd) (L : Lo) (v : V) : Val → Prop
  | .d x => RepD W L.Z L.H v x
  | .r i => ∃ a, L.m[i]? = some a ∧ v = .ref a
inductive RepFV (W : Wd) (L : Lo) : List (Str × V) → List (Nat × Val) → Prop
  | nil : RepFV W L [] []
  | cons {f : Str} {v : V} {i : Nat} {x : Val} {gs : List (Str × V)} {fs : List (Nat × Val)} : W.att i = some f → RepV W L v x → RepFV W L gs fs → RepFV W L ((f, v) :: gs) ((i, x) :: fs)
def RepO (W : Wd) (L : Lo) (a : Addr) : MObj → Prop
  | .lst ds => ∃ vs, L.H a = some (.lst vs) ∧ RepL W L.Z L.H vs ds
  | .dic kvs => ∃ es, L.H a = some (.dK es) ∧ RepK W L.Z L.H es kvs
  | .ins c fs => ∃ C dx gs, W.cls c = some C ∧ L.H a = some (.ins C dx gs) ∧ RepFV W L gs fs
/-- L0: where the expression began -/
def RepR (W : Wd) (L0 L : Lo) (v : V) : RV → Prop
  | .v x => RepV W L v x
  | .tmp o => ∃ a, v = .ref a ∧ L.Z a ∧ ¬ L0.Z a ∧ a ∉ L.m ∧ RepO W L a o
structure Ok (W : Wd) (L : Lo) (S : Pk.St) : Prop where
  zH : ∀ a, L.Z a → ∃ o, L.H a = some o ∧ ¬ Still o
  mz : ∀ a ∈ L.m, L.Z a
  nd : L.m.Nodup
  len : L.m.length = S.cells.length
  cel : ∀ (i : Nat) (a : Addr) (o : MObj), L.m[i]? = some a → S.cells[i]? = some o → RepO W L a o
structure Stp (L L' : Lo) : Prop where
  zz : ∀ a, L.Z a → L'.Z a
  nw : ∀ a, L'.Z a → ¬ L.Z a → L.H a = none
  mm : ∃ r, L'.m = L.m ++ r
  mr : ∀ a ∈ L'.m, a ∉ L.m → ¬ L.Z a
  mz : ∀ a ∈ L.m, L.Z a
  mz' : ∀ a ∈ L'.m, L'.Z a
  kp : ∀ a o, a ∉ L.m → L.H a = some o → L'.H a = some o
  tp : ∀ a o, L.H a = some o → Still o → L'.H a = some o
/-- the cells that refer to cells -/
def RefsLt (n : Nat) : MObj → Prop
  | .ins _ fs => ∀ p ∈ fs, ∀ j, p.2 = .r j → j < n
  | _ => True
structure SS (S S' : Pk.St) : Prop where
  le : S.cells.length ≤ S'.cells.length
  ex : ∃ e, S'.esc = e ++ S.esc ∧ ∀ n k, n ≤ S.cells.length → k < n → k ∉ e → (∀ o, S.cells[k]? = some o → RefsLt n o) → ∀ o, S'.cells[k]? = some o → RefsLt n o
section
variable {W : Wd} {L L' L'' : Lo} {S S' S'' : Pk.St}
theorem SS.refl (S : Pk.St) : SS S S := ⟨Nat.le_refl _, [], rfl, fun _ _ _ _ _ h => h⟩
theorem SS.trans (a : SS S S') (b : SS S' S'') : SS S S'' := by
  obtain ⟨l1, e1, q1, h1⟩ := a
  obtain ⟨l2, e2, q2, h2⟩ := b
  refine ⟨Nat.le_trans l1 l2, e2 ++ e1, by rw [q2, q1, List.append_assoc], fun n k hn hk hne h => ?_⟩
  exact h2 n k (Nat.le_trans hn l1) hk (fun z => hne (List.mem_append_left _ z)) (h1 n k hn hk (fun z => hne (List.mem_append_right _ z)) h)
theorem Stp.keeps (s : Stp L L') : Keeps L.Z L'.Z L.H L'.H := ⟨fun a o n e => s.kp a o (fun z => n (s.mz a z)) e, s.tp, s.nw⟩
theorem Stp.refl (h : ∀ a ∈ L.m, L.Z a) : Stp L L := ⟨fun _ z => z, fun _ z n => (n z).elim, ⟨[], by simp⟩, fun _ z n => (n z).elim, h, h, fun _ _ _ e => e, fun _ _ e _ => e⟩
theorem Stp.trans (s : Stp L L') (t : Stp L' L'') : Stp L L'' where
  zz a z := t.zz a (s.zz a z)
  nw a z n := by
    by_cases h : L'.Z a
    · exact s.nw a h n
    · cases e : L.H a with
      | none => rfl
      | some o =>
        have e1 := t.nw a z h
        rw [s.kp a o (fun q => n (s.mz a q)) e] at e1
        cases e1
  mm := by
    obtain ⟨r, e⟩ := s.mm
    obtain ⟨r', e'⟩ := t.mm
    exact ⟨r ++ r', by rw [e', e, List.append_assoc]⟩
  mr a z n q := by
    by_cases h : a ∈ L'.m
    · exact s.mr a h n q
    · exact t.mr a z h (s.zz a q)
  mz := s.mz
  mz' := t.mz'
  kp a o n e := by
    refine t.kp a o (fun z => ?_) (s.kp a o n e)
    have h := s.nw a (s.mz' a z) (s.mr a z n)
    rw [e] at h
    cases h
  tp a o e h := t.tp a o (s.tp a o e h) h
theorem Stp.get (s : Stp L L') {i : Nat} {a : Addr} (e : L.m[i]? = some a) : L'.m[i]? = some a := by
  obtain ⟨r, q⟩ := s.mm
  rw [q, List.getElem?_append_left (List.getElem?_eq_some_iff.mp e).1]
  exact e
theorem RepV.step (s : Stp L L') {v : V} {x : Val} (h : RepV W L v x) : RepV W L' v x := by
  cases x with
  | d x => exact RepD.mono s.keeps h
  | r i =>
    obtain ⟨a, e, q⟩ := h
    exact ⟨a, s.get e, q⟩
end
end Pk
end
section
set_option Elab.async false
set_option linter.all false
set_option maxRecDepth 100000
/-! What a run of the small language says of the model's run: the frame of the proof. -/
namespace Pk
open PySem L2

section
variable {W : Wd} {L0 L L' L'' : Lo} {S S' : Pk.St}
theorem RepFV.step (s : Stp L L') : ∀ {fs : List (Nat × Val)} {gs : List (Str × V)}, RepFV W L gs fs → RepFV W L' gs fs
  | [], _, h => by cases h; exact .nil
  | (_, _) :: _, _, h => by cases h with | cons h0 h1 h2 => exact .cons h0 (h1.step s) (RepFV.step s h2)
/-- an object that only one holds, unchanged -/
theorem RepO.step (s : Stp L L') {a : Addr} {o : MObj} (n : a ∉ L.m) (h : RepO W L a o) : RepO W L' a o := by
  cases o with
  | lst ds =>
    obtain ⟨vs, e, r⟩ := h
    exact ⟨vs, s.kp _ _ n e, r.mono s.keeps⟩
  | dic kvs =>
    obtain ⟨es, e, r⟩ := h
    exact ⟨es, s.kp _ _ n e, r.mono s.keeps⟩
  | ins c fs =>
    obtain ⟨C, dx, gs, hc, e, r⟩ := h
    exact ⟨C, dx, gs, hc, s.kp _ _ n e, r.step s⟩
theorem RepR.step (s : Stp L L') {v : V} {x : RV} (h : RepR W L0 L v x) : RepR W L0 L' v x := by
  cases x with
  | v x => exact RepV.step s h
  | tmp o =>
    obtain ⟨a, e, z, z0, n, r⟩ := h
    exact ⟨a, e, s.zz a z, z0, fun q => s.mr a q n z, r.step s n⟩
/-- as seen from an earlier start -/
theorem RepR.from (s : Stp L0 L) {v : V} {x : RV} (h : RepR W L L' v x) : RepR W L0 L' v x := by
  cases x with
  | v x => exact h
  | tmp o =>
    obtain ⟨a, e, z, z0, n, r⟩ := h
    exact ⟨a, e, z, fun q => z0 (s.zz a q), n, r⟩

/-- the slots -/
structure RepE (W : Wd) (L : Lo) (σ : L2.St) (ρ : Pk.Env) : Prop where
  len : ρ.length = σ.length
  var : ∀ (i : Nat) (x : Val), ρ[i]? = some (some x) → ∃ v, σ[i]? = some (some v) ∧ RepV W L v x
theorem RepE.step (s : Stp L L') {σ : L2.St} {ρ : Pk.Env} (h : RepE W L σ ρ) : RepE W L' σ ρ :=
  ⟨h.len, fun i x e => let ⟨v, e', r⟩ := h.var i x e; ⟨v, e', r.step s⟩⟩
theorem RepE.set {σ : L2.St} {ρ : Pk.Env} {i : Nat} {v : V} {x : Val} (h : RepE W L σ ρ) (r : RepV W L v x) : RepE W L (σ.set i (some v)) (ρ.set i (some x)) := by
  refine ⟨by rw [List.length_set, List.length_set, h.len], fun j y e => ?_⟩
  by_cases hj : i = j
  · subst hj
    have hi : i < ρ.length := by
      have := (List.getElem?_eq_some_iff.mp e).1
      rwa [List.length_set] at this
    rw [List.getElem?_set_self hi] at e
    cases e
    exact ⟨v, List.getElem?_set_self (by rw [← h.len]; exact hi), r⟩
  · rw [List.getElem?_set_ne hj] at e
    obtain ⟨u, e', q⟩ := h.var j y e
    exact ⟨u, by rw [List.getElem?_set_ne hj]; exact e', q⟩

/-- an exception: its class, its own dict -/
def RepX (W : Wd) (L : Lo) (cls : Value) (d : Option Addr) : D → Prop
  | .exc c fs => ∃ C, W.cls c = some C ∧ cls = .ref C ∧ ((fs = [] ∧ d = none) ∨ ∃ a gs, d = some a ∧ L.H a = some (.xd gs) ∧ RepF W L.Z L.H gs fs)
  | _ => False
/-- what is wanted of a run's end: P of what it gives, E of what it raises -/
def Out {α : Type} (W : Wd) (E : XK) (L : Lo) (S : Pk.St) (r : Res α) (P : α → Pk.St → Lo → Prop) : Prop := match r with
  | .ok a S' => ∀ L', Stp L L' → Ok W L' S' → SS S S' → P a S' L'
  | .exc e S' => ∀ L' cls d, Stp L L' → Ok W L' S' → SS S S' → RepX W L' cls d e → E cls d L'.H
  | .err => False
theorem Out.imp {α : Type} {E : XK} {r : Res α} {P P' : α → Pk.St → Lo → Prop} (h : Out W E L S r P) (hp : ∀ a S' L', Stp L L' → Ok W L' S' → SS S S' → P a S' L' → P' a S' L') : Out W E L S r P' := by
  cases r with
  | ok a S' => exact fun L' s o q => hp a S' L' s o q (h L' s o q)
  | exc e S' => exact h
  | err => exact h
/-- seen from a later place -/
theorem Out.later {α : Type} {E : XK} {r : Res α} {P : α → Pk.St → Lo → Prop} (s : Stp L L') (q : SS S S') (h : Out W E L S r P) : Out W E L' S' r P := by
  cases r with
  | ok a S' => exact fun L'' s' o q' => h L'' (s.trans s') o (q.trans q')
  | exc e S' => exact fun L'' cls d s' o q' => h L'' cls d (s.trans s') o (q.trans q')
  | err => exact h
/-- one run after another -/
theorem Out.bnd {α β : Type} {E : XK} {m : M α} {f : α → M β} {P : β → Pk.St → Lo → Prop} (h : Out W E L S (bnd m f S) P) :
    Out W E L S (m S) fun a S1 L1 => Out W E L1 S1 (f a S1) P := by
  unfold Pk.bnd at h
  cases e : m S with
  | ok a S1 =>
    rw [e] at h
    exact fun L1 s o q => Out.later s q h
  | exc x S1 =>
    rw [e] at h
    exact h
  | err =>
    rw [e] at h
    exact h
/-- .. seen from where the first began -/
theorem Out.bnd0 {α β : Type} {E : XK} {m : M α} {f : α → M β} {P : β → Pk.St → Lo → Prop} (h : Out W E L S (Pk.bnd m f S) P) :
    Out W E L S (m S) fun a S1 L1 => Out W E L S (f a S1) P := by
  unfold Pk.bnd at h
  cases e : m S with
  | ok a S1 =>
    rw [e] at h
    exact fun L1 s o q => h
  | exc x S1 =>
    rw [e] at h
    exact h
  | err =>
    rw [e] at h
    exact h
theorem Out.bnd1 {α β : Type} {E : XK} {m : M α} {f : α → M β} {P : β → Pk.St → Lo → Prop} (h : Out W E L S (Pk.bnd m f S') P) :
    Out W E L S (m S') fun a S1 L1 => Out W E L S (f a S1) P := by
  unfold Pk.bnd at h
  cases e : m S' with
  | ok a S1 =>
    rw [e] at h
    exact fun L1 s o q => h
  | exc x S1 =>
    rw [e] at h
    exact h
  | err =>
    rw [e] at h
    exact h
theorem Out.ret {α : Type} {E : XK} {a : α} {P : α → Pk.St → Lo → Prop} (hL : Ok W L S) (h : Out W E L S (Pk.ret a S) P) : P a S L := h L (Stp.refl hL.mz) hL (SS.refl S)
theorem Out.lift {α : Type} {E : XK} {o : Option α} {P : α → Pk.St → Lo → Prop} (hL : Ok W L S) (h : Out W E L S (Pk.lift o S) P) : ∃ a, o = some a ∧ P a S L := by
  cases o with
  | none => exact h.elim
  | some a => exact ⟨a, rfl, h.ret hL⟩
theorem Out.lifts {α : Type} {E : XK} {o : Option α} {P : α → Pk.St → Lo → Prop} (h : Out W E L S (Pk.lift o S') P) : ∃ a, o = some a ∧ Out W E L S (.ok a S') P := by
  cases o with
  | none => exact h.elim
  | some a => exact ⟨a, rfl, h⟩
end

/-! ### readings -/
/-- an expression that runs as m -/
def RdE (W : Wd) (Wx : WX) (m : Pk.Env → M RV) : TE := fun σ H Q => ∃ L ρ S, L.H = H ∧ Ok W L S ∧ RepE W L σ ρ ∧ Out W (fun c d H => Wx c d σ H) L S (m ρ S) fun rv S' L' => ∀ v, RepR W L L' v rv → Q v L'.H
theorem PE.imp {X : Cx} {e : Expr} {t t' : TE} (h : PE X e t) (i : ∀ σ H Q, t' σ H Q → t σ H Q) : PE X e t' := ⟨fun pins s σ H Q I q => h.run pins s σ H Q I (i σ H Q q)⟩
theorem PT.imp {X : Cx} {e : Expr} {t t' : TT} (h : PT X e t) (i : ∀ σ H Q, t' σ H Q → t σ H Q) : PT X e t' := ⟨fun pins s σ H Q I q => h.run pins s σ H Q I (i σ H Q q)⟩
theorem PS.imp {X : Cx} {e : Stmt} {t t' : TS} (h : PS X e t) (i : ∀ D σ H, t' D σ H → t D σ H) : PS X e t' := ⟨fun pins s σ H D I q => h.run pins s σ H D I (i D σ H q)⟩
theorem PA.imp {X : Cx} {e : List Expr} {t t' : TA} (h : PA X e t) (i : ∀ σ H Q, t' σ H Q → t σ H Q) : PA X e t' := ⟨fun pos pins s σ H Q I q => h.run pos pins s σ H Q I (i σ H Q q)⟩
section
variable {W : Wd} {Wx : WX} {L0 L : Lo} {S : Pk.St} {σ : L2.St} {ρ : Pk.Env} {m : Pk.Env → M RV} {β : Type}
/-- an expression is run, then the rest: from the place L -/
theorem RdE.go {f : RV → M β} {P : β → Pk.St → Lo → Prop} {Q : VK} (hL : Ok W L S) (hE : RepE W L σ ρ) (h : Out W (fun c d H => Wx c d σ H) L S (bnd (m ρ) f S) P)
    (k : ∀ v rv S1 L1, Stp L L1 → Ok W L1 S1 → RepR W L L1 v rv → Out W (fun c d H => Wx c d σ H) L1 S1 (f rv S1) P → Q v L1.H) : RdE W Wx m σ L.H Q :=
  ⟨L, ρ, S, rfl, hL, hE, h.bnd.imp fun rv S1 L1 s o q h1 v r => k v rv S1 L1 s o r h1⟩
/-- .. and nothing behind -/
theorem RdE.last {P : RV → Pk.St → Lo → Prop} {Q : VK} (hL : Ok W L S) (hE : RepE W L σ ρ) (h : Out W (fun c d H => Wx c d σ H) L S (m ρ S) P)
    (k : ∀ v rv S1 L1, Stp L L1 → Ok W L1 S1 → RepR W L L1 v rv → P rv S1 L1 → Q v L1.H) : RdE W Wx m σ L.H Q :=
  ⟨L, ρ, S, rfl, hL, hE, h.imp fun rv S1 L1 s o q h1 v r => k v rv S1 L1 s o r h1⟩
end

/-! ### new values -/
section
variable {W : Wd} {L0 L : Lo} {S : Pk.St}
/-- what a read-only step gives: data that stand, or a new object -/
def NewO (W : Wd) (Z : Addr → Prop) (H : Hp) (a : Addr) : MObj → Prop
  | .lst ds => ∃ vs, H a = some (.lst vs) ∧ RepL W (fun b => Z b ∨ b = a) H vs ds
  | .dic kvs => ∃ es, H a = some (.dK es) ∧ RepK W (fun b => Z b ∨ b = a) H es kvs
  | .ins _ _ => False
def Fresh (W : Wd) (Z : Addr → Prop) (H H' : Hp) (v : V) (rv : RV) : Prop := match rv with
  | .v (.d x) => Same H H' ∧ RepD W Z H' v x
  | .v (.r _) => False
  | .tmp o => Same H H' ∧ ∃ p, v = .ref p ∧ H p = none ∧ NewO W Z H' p o
def Lo.with (L : Lo) (p : Addr) (H : Hp) : Lo := ⟨fun a => L.Z a ∨ a = p, L.m, H⟩
theorem Ok.same {H' : Hp} (h : Ok W L S) (s : Same L.H H') : Ok W ⟨L.Z, L.m, H'⟩ S := by
  have st : Stp L ⟨L.Z, L.m, H'⟩ := ⟨fun _ z => z, fun _ z n => (n z).elim, ⟨[], by simp⟩, fun _ z n => (n z).elim, h.mz, h.mz, fun a o _ e => s a o e, fun a o e _ => s a o e⟩
  refine ⟨fun a z => let ⟨o, e, q⟩ := h.zH a z; ⟨o, s a o e, q⟩, h.mz, h.nd, h.len, fun i a o e1 e2 => ?_⟩
  have r := h.cel i a o e1 e2
  cases o with
  | lst ds =>
    obtain ⟨vs, e, r⟩ := r
    exact ⟨vs, s _ _ e, r.mono (Keeps.same s)⟩
  | dic kvs =>
    obtain ⟨es, e, r⟩ := r
    exact ⟨es, s _ _ e, r.mono (Keeps.same s)⟩
  | ins c fs =>
    obtain ⟨C, dx, gs, hc, e, r⟩ := r
    exact ⟨C, dx, gs, hc, s _ _ e, r.step st⟩
theorem Stp.same {H' : Hp} (h : Ok W L S) (s : Same L.H H') : Stp L ⟨L.Z, L.m, H'⟩ :=
  ⟨fun _ z => z, fun _ z n => (n z).elim, ⟨[], by simp⟩, fun _ z n => (n z).elim, h.mz, h.mz, fun a o _ e => s a o e, fun a o e _ => s a o e⟩
theorem Stp.with {H' : Hp} {p : Addr} (h : Ok W L S) (s : Same L.H H') (np : L.H p = none) : Stp L (L.with p H') :=
  ⟨fun _ z => .inl z, fun a z n => z.elim (fun q => (n q).elim) (fun q => by rw [q]; exact np), ⟨[], by simp [Lo.with]⟩, fun _ z n => (n z).elim, h.mz, fun a z => .inl (h.mz a z), fun a o _ e => s a o e, fun a o e _ => s a o e⟩
theorem Ok.with {H' : Hp} {p : Addr} {u : HO} (h : Ok W L S) (s : Same L.H H') (np : L.H p = none) (hp : H' p = some u) (hu : ¬ Still u) : Ok W (L.with p H') S := by
  have st : Stp L (L.with p H') := Stp.with h s np
  refine ⟨fun a z => ?_, st.mz', h.nd, h.len, fun i a o e1 e2 => ?_⟩
  · rcases z with z | z
    · obtain ⟨o, e, q⟩ := h.zH a z
      exact ⟨o, s a o e, q⟩
    · subst z
      exact ⟨u, hp, hu⟩
  · have r := h.cel i a o e1 e2
    cases o with
    | lst ds =>
      obtain ⟨vs, e, r⟩ := r
      exact ⟨vs, s _ _ e, r.mono st.keeps⟩
    | dic kvs =>
      obtain ⟨es, e, r⟩ := r
      exact ⟨es, s _ _ e, r.mono st.keeps⟩
    | ins c fs =>
      obtain ⟨C, dx, gs, hc, e, r⟩ := r
      exact ⟨C, dx, gs, hc, s _ _ e, r.step st⟩
/-- a read-only step's value, at its place -/
theorem Fresh.done {E : XK} {H' : Hp} {v : V} {rv : RV} {P : RV → Pk.St → Lo → Prop} (hL : Ok W L S) (f : Fresh W L.Z L.H H' v rv) (h : Out W E L S (.ok rv S) P) : ∃ L', L'.H = H' ∧ Stp L L' ∧ Ok W L' S ∧ RepR W L L' v rv ∧ P rv S L' := by
  cases rv with
  | v x =>
    cases x with
    | d x =>
      obtain ⟨s, r⟩ := f
      exact ⟨⟨L.Z, L.m, H'⟩, rfl, Stp.same hL s, hL.same s, r, h _ (Stp.same hL s) (hL.same s) (SS.refl S)⟩
    | r i => exact f.elim
  | tmp o =>
    obtain ⟨s, p, e, np, r⟩ := f
    have nz : ¬ L.Z p := fun z => by
      obtain ⟨u, q, _⟩ := hL.zH p z
      rw [np] at q
      cases q
    have st : Stp L (L.with p H') := Stp.with hL s np
    have nm : p ∉ L.m := fun z => nz (hL.mz p z)
    cases o with
    | lst ds =>
      obtain ⟨vs, q, r⟩ := r
      have o' : Ok W (L.with p H') S := hL.with s np q id
      exact ⟨L.with p H', rfl, st, o', ⟨p, e, .inr rfl, nz, nm, vs, q, r⟩, h _ st o' (SS.refl S)⟩
    | dic kvs =>
      obtain ⟨vs, q, r⟩ := r
      have o' : Ok W (L.with p H') S := hL.with s np q id
      exact ⟨L.with p H', rfl, st, o', ⟨p, e, .inr rfl, nz, nm, vs, q, r⟩, h _ st o' (SS.refl S)⟩
    | ins _ _ => exact r.elim
/-- old data at a heap that only grew, a new place out of bounds -/
theorem Keeps.new {Z : Addr → Prop} {H H' : Hp} {p : Addr} (s : Same H H') (np : H p = none) : Keeps Z (fun b => Z b ∨ b = p) H H' :=
  ⟨fun a o _ e => s a o e, fun a o e _ => s a o e, fun a z n => z.elim (fun q => (n q).elim) fun q => by rw [q]; exact np⟩
theorem Same.upd {H : Hp} {p : Addr} {o : HO} (np : H p = none) : Same H (upd H p o) := fun b u e => by
  rw [upd_ne (ne_of_none e np)]
  exact e
theorem Fresh.lst {Z : Addr → Prop} {H : Hp} {p : Addr} {vs : List V} {ds : List D} (np : H p = none) (r : RepL W Z H vs ds) : Fresh W Z H (L2.upd H p (.lst vs)) (.ref p) (tmpL ds) :=
  ⟨Same.upd np, p, rfl, np, vs, upd_same, r.mono (Keeps.new (Same.upd np) np)⟩
theorem Fresh.tup {Z : Addr → Prop} {H : Hp} {p : Addr} {vs : List V} {ds : List D} (np : H p = none) (r : RepL W Z H vs ds) : Fresh W Z H (L2.upd H p (.tup vs)) (.ref p) (dv (.tup ds)) :=
  ⟨Same.upd np, .tup (SqT.of upd_same) (r.mono (Keeps.same (Same.upd np)))⟩
theorem Fresh.old {Z : Addr → Prop} {H : Hp} {v : V} {d : D} (r : RepD W Z H v d) : Fresh W Z H H v (dv d) := ⟨fun _ _ e => e, r⟩
end

/-! ### what is read -/
/-- as RepD, but the thing itself may be out of bounds -/
def RepT (W : Wd) (Z : Addr → Prop) (H : Hp) (v : V) : D → Prop
  | .lst ds => ∃ a vs, v = .ref a ∧ H a = some (.lst vs) ∧ RepL W Z H vs ds
  | .dic kvs => ∃ a es, v = .ref a ∧ Rd H a (.dK es) ∧ RepK W Z H es kvs
  | .ins c fs => ∃ a C dx gs, v = .ref a ∧ W.cls c = some C ∧ H a = some (.ins C dx gs) ∧ RepF W Z H gs fs
  | d => RepD W Z H v d
section
variable {W : Wd} {L0 L : Lo} {S : Pk.St} {Z : Addr → Prop} {H : Hp}
theorem RepD.t {v : V} {d : D} (h : RepD W Z H v d) : RepT W Z H v d := by
  cases h with
  | lst h0 h1 h2 => exact ⟨_, _, rfl, h1, h2⟩
  | scr h1 => exact .scr h1
  | dic h0 h1 h2 => exact ⟨_, _, rfl, h1, h2⟩
  | ins h0 hc h1 h2 => exact ⟨_, _, _, _, rfl, hc, h1, h2⟩
  | non => exact .non
  | bl b => exact .bl b
  | int b => exact .int b
  | str b => exact .str b
  | tup h1 h2 => exact .tup h1 h2
theorem RepFV.f : ∀ {fs : List (Nat × Val)} {gs : List (Str × V)} {fd : List (Nat × D)}, RepFV W L gs fs → fsD fs = some fd → RepF W L.Z L.H gs fd
  | [], _, _, h, e => by
    cases h
    cases e
    exact .nil
  | (i, .d x) :: fs, _, fd, h, e => by
    cases h with
    | cons h0 h1 h2 =>
      unfold fsD at e
      obtain ⟨fd', e1, e2⟩ := Option.map_eq_some_iff.mp e
      subst e2
      exact .cons h0 h1 (RepFV.f h2 e1)
  | (_, .r _) :: _, _, _, _, e => by cases e
theorem RepO.t {a : Addr} {o : MObj} {d : D} (h : RepO W L a o) (e : o.toD = some d) : RepT W L.Z L.H (.ref a) d := by
  cases o with
  | lst ds =>
    obtain ⟨vs, q, r⟩ := h
    cases e
    exact ⟨a, vs, rfl, q, r⟩
  | dic kvs =>
    obtain ⟨vs, q, r⟩ := h
    cases e
    exact ⟨a, vs, rfl, .inl q, r⟩
  | ins c fs =>
    obtain ⟨C, dx, gs, hc, q, r⟩ := h
    obtain ⟨fd, e1, e2⟩ := Option.map_eq_some_iff.mp (show (fsD fs).map (D.ins c) = some d from e)
    subst e2
    exact ⟨a, C, dx, gs, rfl, hc, q, r.f e1⟩
/-- what a value is just now -/
theorem RepR.look (hL : Ok W L S) {v : V} {rv : RV} {d : D} (h : RepR W L0 L v rv) (e : rv.look S = some d) : RepT W L.Z L.H v d := by
  cases rv with
  | v x =>
    cases x with
    | d x =>
      cases e
      exact RepD.t h
    | r i =>
      obtain ⟨a, em, ev⟩ := h
      subst ev
      have e' : (match S.cells[i]? with | some o => o.toD | none => none) = some d := e
      cases ec : S.cells[i]? with
      | none =>
        rw [ec] at e'
        cases e'
      | some o =>
        rw [ec] at e'
        exact (hL.cel i a o em ec).t e'
  | tmp o =>
    obtain ⟨a, ev, _, _, _, r⟩ := h
    subst ev
    exact r.t e
theorem Ok.cell (hL : Ok W L S) {i : Nat} {a : Addr} (e : L.m[i]? = some a) : ∃ o, S.cells[i]? = some o ∧ RepO W L a o := by
  have hi : i < S.cells.length := by
    rw [← hL.len]
    exact (List.getElem?_eq_some_iff.mp e).1
  exact ⟨_, List.getElem?_eq_getElem hi, hL.cel i a _ e (List.getElem?_eq_getElem hi)⟩
end
end Pk
end
section
set_option Elab.async false
set_option linter.all false
set_option maxRecDepth 100000
/-! The operators and built-ins, by data. -/
namespace Pk
open PySem L2

theorem line_eq : line = sizeLine := by rw [sizeLine_eq]; rfl
section
variable {W : Wd} {Z : Addr → Prop} {H : Hp}
mutual
theorem RepD.dp : ∀ {d : D} {v : V}, d.flat = true → RepD W Z H v d → Dp W.K H v d.pd
  | .non, _, _, h => by cases h; exact .non
  | .bl _, _, _, h => by cases h; exact .bl _
  | .int _, _, _, h => by cases h; exact .int _
  | .str _, _, _, h => by cases h; exact .str _
  | .tup _, _, f, h => by cases h with | tup h1 h2 => exact .tup h1 (RepL.dp f h2)
  | .lst _, _, f, h => by
    cases h with
    | lst _ h1 h2 => exact .lst (SqL.of h1) (RepL.dp f h2)
  | .dic _, _, f, _ => by cases f
  | .ins _ _, _, f, _ => by cases f
  | .exc _ _, _, f, _ => by cases f
  | .fn _, _, f, _ => by cases f
  | .scr _, _, f, _ => by cases f
theorem RepL.dp : ∀ {ds : List D} {vs : List V}, flats ds = true → RepL W Z H vs ds → DpAll W.K H vs (pds ds)
  | [], _, _, h => by cases h; exact .nil
  | _ :: _, _, f, h => by
    cases h with
    | cons h1 h2 =>
      have f' := Bool.and_eq_true_iff.mp f
      exact .cons (RepD.dp f'.1 h1) (RepL.dp f'.2 h2)
end
theorem RepT.dp {d : D} {v : V} (f : d.flat = true) (h : RepT W Z H v d) : Dp W.K H v d.pd := by
  cases d with
  | lst ds =>
    obtain ⟨a, vs, e, h1, h2⟩ := h
    subst e
    exact .lst (SqL.of h1) (RepL.dp f h2)
  | scr _ => cases f
  | dic _ => cases f
  | ins _ _ => cases f
  | exc _ _ => cases f
  | fn _ => cases f
  | non => exact RepD.dp f h
  | bl _ => exact RepD.dp f h
  | int _ => exact RepD.dp f h
  | str _ => exact RepD.dp f h
  | tup _ => exact RepD.dp f h
theorem okD_iff {d : D} (h : okD d = true) : d.flat = true ∧ SeqAt.shaped d.pd = true := Bool.and_eq_true_iff.mp h
theorem RepT.int {v : V} {i : Int} (h : RepT W Z H v (.int i)) : v = .int i := by cases (show RepD W Z H v (.int i) from h); rfl
theorem RepT.str {v : V} {i : Str} (h : RepT W Z H v (.str i)) : v = .str i := by cases (show RepD W Z H v (.str i) from h); rfl
theorem RepT.bl {v : V} {i : Bool} (h : RepT W Z H v (.bl i)) : v = .bl i := by cases (show RepD W Z H v (.bl i) from h); rfl
theorem RepT.non {v : V} (h : RepT W Z H v .non) : v = .non := by cases (show RepD W Z H v .non from h); rfl
theorem RepT.tup {v : V} {ds : List D} (h : RepT W Z H v (.tup ds)) : ∃ a vs, v = .ref a ∧ SqT W.K H a vs ∧ RepL W Z H vs ds := by
  cases (show RepD W Z H v (.tup ds) from h) with
  | tup h1 h2 => exact ⟨_, _, rfl, h1, h2⟩
theorem Fresh.int (i : Int) : Fresh W Z H H (.int i) (iv i) := Fresh.old (.int i)
theorem Fresh.bl (i : Bool) : Fresh W Z H H (.bl i) (bv i) := Fresh.old (.bl i)
theorem Fresh.str (i : Str) : Fresh W Z H H (.str i) (sv i) := Fresh.old (.str i)
end

/-! ### relations -/
def rD2 (W : Wd) (f : D → D → Option RV) : R2 := fun x y H Q => ∃ Z dx dy rv, RepT W Z H x dx ∧ RepT W Z H y dy ∧ f dx dy = some rv ∧ ∀ v H', Fresh W Z H H' v rv → Q v H'
inductive RepTs (W : Wd) (Z : Addr → Prop) (H : Hp) : List V → List D → Prop
  | nil : RepTs W Z H [] []
  | cons {v : V} {d : D} {vs : List V} {ds : List D} : RepT W Z H v d → RepTs W Z H vs ds → RepTs W Z H (v :: vs) (d :: ds)
def rDs (W : Wd) (f : List D → Option RV) : List V → Hp → VK → Prop := fun xs H Q => ∃ Z ds rv, RepTs W Z H xs ds ∧ f ds = some rv ∧ ∀ v H', Fresh W Z H H' v rv → Q v H'
section
variable {X : Cx} {W : Wd}
theorem ite_some {α : Type} {c : Prop} [Decidable c] {a : α} {b : α} (h : (if c then some a else none) = some b) : c ∧ a = b := by
  split at h
  · rename_i hc
    exact ⟨hc, Option.some.inj h⟩
  · cases h
theorem ite_some' {α : Type} {c : Prop} [Decidable c] {a : Option α} {b : α} (h : (if c then a else none) = some b) : c ∧ a = some b := by
  split at h
  · rename_i hc
    exact ⟨hc, h⟩
  · cases h
theorem RepL.times {Z : Addr → Prop} {H : Hp} {ds : List D} {vs : List V} (h : RepL W Z H vs ds) : ∀ n : Nat, RepL W Z H (List.replicate n vs).flatten (List.replicate n ds).flatten
  | 0 => .nil
  | n + 1 => by
    rw [List.replicate_succ, List.replicate_succ, List.flatten_cons, List.flatten_cons]
    exact h.append (RepL.times h n)
theorem op_bin (hW : W.K = X.K) (op : Operator) : OpR X (binaryOp op) (rD2 W (binD op)) := by
  intro pins s σ H x y v u Q I rx ry h
  obtain ⟨Z, dx, dy, rv, hx, hy, e, q⟩ := h
  unfold binD at e
  split at e
  · rw [hx.int] at rx
    rw [hy.int] at ry
    cases e
    exact op_add pins s σ H _ _ v u Q I rx ry ⟨_, _, rfl, rfl, q _ _ (Fresh.int _)⟩
  · rw [hx.int] at rx
    rw [hy.int] at ry
    cases e
    exact op_sub pins s σ H _ _ v u Q I rx ry ⟨_, _, rfl, rfl, q _ _ (Fresh.int _)⟩
  · rw [hx.int] at rx
    rw [hy.int] at ry
    obtain ⟨hc, e⟩ := ite_some e
    cases e
    exact op_mul pins s σ H _ _ v u Q I rx ry ⟨_, _, rfl, rfl, by unfold CMul; omega, q _ _ (Fresh.int _)⟩
  · rw [hx.int] at rx
    rw [hy.int] at ry
    obtain ⟨hc, e⟩ := ite_some e
    cases e
    exact op_fdiv pins s σ H _ _ v u Q I rx ry ⟨_, _, rfl, rfl, hc, q _ _ (Fresh.int _)⟩
  · rw [hx.int] at rx
    rw [hy.int] at ry
    obtain ⟨hc, e⟩ := ite_some e
    cases e
    exact op_mod pins s σ H _ _ v u Q I rx ry ⟨_, _, rfl, rfl, hc, q _ _ (Fresh.int _)⟩
  · rw [hx.int] at rx
    rw [hy.int] at ry
    obtain ⟨hc, e⟩ := ite_some e
    cases e
    exact op_pow pins s σ H _ _ v u Q I rx ry ⟨_, _, rfl, rfl, ⟨hc.1, hc.2.1, by omega⟩, q _ _ (Fresh.int _)⟩
  · rw [hx.str] at rx
    rw [hy.str] at ry
    obtain ⟨hc, e⟩ := ite_some e
    cases e
    exact op_add_str pins s σ H _ _ v u Q I rx ry ⟨_, _, rfl, rfl, by rw [← line_eq]; exact hc, q _ _ (Fresh.str _)⟩
  · obtain ⟨a, vs, ea, ha, ra⟩ := hx.tup
    obtain ⟨b, us, eb, hb, rb⟩ := hy.tup
    subst ea eb
    obtain ⟨hc, e⟩ := ite_some e
    cases e
    have l1 := ra.length
    have l2 := rb.length
    refine op_catA pins s σ H _ _ v u Q I rx ry ⟨a, b, vs, us, rfl, rfl, by rw [← hW]; exact ha, by rw [← hW]; exact hb, by rw [← line_eq]; omega, fun e => ?_, fun _ e => ?_, fun _ _ p np => q _ _ (Fresh.tup np (ra.append rb))⟩
    · subst e
      cases ra
      exact q _ _ (Fresh.old (.tup hb rb))
    · subst e
      cases rb
      rw [List.append_nil] at q
      exact q _ _ (Fresh.old (.tup ha ra))
  · obtain ⟨a, vs, ea, ha, ra⟩ := hx
    obtain ⟨b, us, eb, hb, rb⟩ := hy
    subst ea eb
    obtain ⟨hc, e⟩ := ite_some e
    cases e
    have l1 := ra.length
    have l2 := rb.length
    exact op_cat pins s σ H _ _ v u Q I rx ry ⟨a, b, vs, us, rfl, rfl, ha, hb, by rw [← line_eq]; omega, fun p np => q _ _ (Fresh.lst np (ra.append rb))⟩
  · obtain ⟨a, vs, ea, ha, ra⟩ := hx
    subst ea
    rw [hy.int] at ry
    obtain ⟨hc, e⟩ := ite_some e
    cases e
    have l1 := ra.length
    exact op_rep pins s σ H _ _ v u Q I rx ry ⟨a, _, vs, rfl, rfl, ha, hc.1, hc.2.1, by rw [← line_eq, l1]; exact hc.2.2, fun p np => q _ _ (Fresh.lst np (ra.times _))⟩
  · cases e

def rC (W : Wd) (g : D → D → Option Bool) : R2 := fun x y H Q => ∃ Z dx dy b, RepT W Z H x dx ∧ RepT W Z H y dy ∧ g dx dy = some b ∧ Q (.bl b) H
theorem strs2_some {a b : D} {r : Bool} (h : strs2 a b = some r) : ∃ x y, a = .str x ∧ b = .str y ∧ r = decide (x = y) := by
  cases a <;> cases b <;> first | (cases h; done) | skip
  exact ⟨_, _, rfl, rfl, (Option.some.inj h).symm⟩
theorem eqD_cases {a b : D} {r : Bool} (h : eqD a b = some r) : (∃ x y, a = .str x ∧ b = .str y ∧ r = decide (x = y)) ∨ eqF a b = some r := by
  unfold eqD at h
  cases e : strs2 a b with
  | some q =>
    rw [e] at h
    obtain ⟨x, y, h1, h2, h3⟩ := strs2_some e
    exact .inl ⟨x, y, h1, h2, (Option.some.inj h).symm.trans h3⟩
  | none =>
    rw [e] at h
    exact .inr h
theorem dec_strV {x y : Str} : decide (V.str x = V.str y) = decide (x = y) := by
  rw [Bool.eq_iff_iff]
  simp
theorem op_eqF (hW : W.K = X.K) (hu : X.A.units + 65 < cLine) : OpR X (compareOp .Eq) (rC W eqD) := by
  intro pins s σ H x y v u Q I rx ry h
  obtain ⟨Z, dx, dy, b, hx, hy, e, q⟩ := h
  rcases eqD_cases e with ⟨a, c, rfl, rfl, rfl⟩ | e
  · cases RepT.str hx
    cases RepT.str hy
    exact L2.op_eq pins s σ H _ _ v u Q I rx ry ⟨rfl, by rw [dec_strV]; exact q⟩
  obtain ⟨⟨k1, k2⟩, e⟩ := ite_some (show (if okD dx = true ∧ okD dy = true then some (PyData.eqv dx.pd dy.pd) else none) = some b from e)
  cases e
  have h1 := hx.dp (okD_iff k1).1
  have h2 := hy.dp (okD_iff k2).1
  rw [hW] at h1 h2
  exact op_eqD (by omega) pins s σ H x y v u Q I rx ry ⟨_, _, h1, h2, (okD_iff k1).2, (okD_iff k2).2, q⟩
theorem op_neF (hW : W.K = X.K) (hu : X.A.units + 65 < cLine) : OpR X (compareOp .NotEq) (rC W fun a b => (eqD a b).map (!·)) := by
  intro pins s σ H x y v u Q I rx ry h
  obtain ⟨Z, dx, dy, b, hx, hy, e, q⟩ := h
  obtain ⟨b', e', eb⟩ := Option.map_eq_some_iff.mp e
  rcases eqD_cases e' with ⟨a, c, rfl, rfl, rfl⟩ | e'
  · cases RepT.str hx
    cases RepT.str hy
    subst eb
    exact L2.op_ne pins s σ H _ _ v u Q I rx ry ⟨rfl, by rw [dec_strV]; exact q⟩
  obtain ⟨⟨k1, k2⟩, e⟩ := ite_some (show (if okD dx = true ∧ okD dy = true then some (PyData.eqv dx.pd dy.pd) else none) = some b' from e')
  subst e
  subst eb
  have h1 := hx.dp (okD_iff k1).1
  have h2 := hy.dp (okD_iff k2).1
  rw [hW] at h1 h2
  exact op_neD (by omega) pins s σ H x y v u Q I rx ry ⟨_, _, h1, h2, (okD_iff k1).2, (okD_iff k2).2, q⟩
theorem any_pds (x : D) : ∀ ds : List D, ((pds ds).any fun z => PyData.eqv z x.pd) = ds.any fun y => PyData.eqv y.pd x.pd
  | [] => rfl
  | y :: ds => by rw [pds, List.any_cons, List.any_cons, any_pds x ds]
theorem ok_lst {ds : List D} (h : okD (.lst ds) = true) : flats ds = true ∧ SeqAt.shaped (.list (pds ds)) = true := okD_iff h
theorem shaped_tup {ds : List PyData} (h : SeqAt.shaped (.list ds) = true) : SeqAt.shaped (.tuple ds) = true := h
theorem op_inF (hW : W.K = X.K) (hu : X.A.units + 65 < cLine) (neg : Bool) : OpR X (compareOp (if neg then .NotIn else .In)) (rC W fun x y => match y with
    | .tup ds => (inD x ds).map (xor neg ·)
    | .lst ds => (inD x ds).map (xor neg ·)
    | _ => none) := by
  intro pins s σ H x y v u Q I rx ry h
  obtain ⟨Z, dx, dy, b, hx, hy, e, q⟩ := h
  dsimp only at e
  split at e
  · rename_i ds
    obtain ⟨b', e', eb⟩ := Option.map_eq_some_iff.mp e
    obtain ⟨⟨k1, k2⟩, e⟩ := ite_some (show (if okD dx = true ∧ okD (.lst ds) = true then some (ds.any fun y => PyData.eqv y.pd dx.pd) else none) = some b' from e')
    subst e
    subst eb
    obtain ⟨as, r1⟩ := Dp.reads I _ x v (hW ▸ hx.dp (okD_iff k1).1) rx
    obtain ⟨bs, r2⟩ := Dp.reads I _ y u (hW ▸ hy.dp (show (D.tup ds).flat = true from (ok_lst k2).1)) ry
    have c1 := SeqAt.canLay_of_shaped (ok_lst k2).2
    have c2 := SeqAt.canLay_of_shaped (okD_iff k1).2
    have c3 := PyProof.Rows.room_in_shaped (xs := pds ds) (okD_iff k1).2 hu
    cases neg with
    | false => exact SeqAt.in_tuple_reads r2 r1 c1 c2 c3 ⟨.bl _, H, I, rfl, by rw [any_pds]; simpa using q⟩
    | true => exact SeqAt.notIn_tuple_reads r2 r1 c1 c2 c3 ⟨.bl _, H, I, rfl, by rw [any_pds]; simpa using q⟩
  · rename_i ds
    obtain ⟨b', e', eb⟩ := Option.map_eq_some_iff.mp e
    obtain ⟨⟨k1, k2⟩, e⟩ := ite_some (show (if okD dx = true ∧ okD (.lst ds) = true then some (ds.any fun y => PyData.eqv y.pd dx.pd) else none) = some b' from e')
    subst e
    subst eb
    obtain ⟨as, r1⟩ := Dp.reads I _ x v (hW ▸ hx.dp (okD_iff k1).1) rx
    obtain ⟨bs, r2⟩ := Dp.reads I _ y u (hW ▸ hy.dp (show (D.lst ds).flat = true from (ok_lst k2).1)) ry
    have c1 := SeqAt.canLay_of_shaped (ok_lst k2).2
    have c2 := SeqAt.canLay_of_shaped (okD_iff k1).2
    have c3 := PyProof.Rows.room_in_shaped (xs := pds ds) (okD_iff k1).2 hu
    cases neg with
    | false => exact SeqAt.in_list_reads r2 r1 c1 c2 c3 ⟨.bl _, H, I, rfl, by rw [any_pds]; simpa using q⟩
    | true => exact SeqAt.notIn_list_reads r2 r1 c1 c2 c3 ⟨.bl _, H, I, rfl, by rw [any_pds]; simpa using q⟩
  · cases e
theorem keyEq_some {l k : D} {a b : Key} (h1 : dKey l = some a) (h2 : dKey k = some b) : keyEq l k = decide (a = b) := by
  cases l <;> simp [dKey] at h1 <;> cases k <;> simp [dKey] at h2 <;> subst h1 <;> subst h2 <;> simp [keyEq]
theorem RepK.val {Z : Addr → Prop} {H : Hp} {k : D} {a : Key} (hk : dKey k = some a) : ∀ {es : List (Key × V)} {kvs : List (D × D)}, RepK W Z H es kvs →
    (∀ d, dGet k kvs = some d → ∃ v, valV es a = some v ∧ RepD W Z H v d) ∧ (dGet k kvs = none → valV es a = none)
  | _, [], h => by
    cases h
    exact ⟨fun d e => (by cases e), fun _ => rfl⟩
  | (b, w) :: es', (l, x) :: kvs, h => by
    cases h with
    | cons h0 h1 h2 =>
      have ih := RepK.val hk h2
      unfold dGet
      rw [keyEq_some h0 hk]
      by_cases e : b = a
      · rw [if_pos (decide_eq_true e)]
        refine ⟨fun d q => ?_, fun q => by cases q⟩
        cases q
        exact ⟨w, by simp [valV, e], h1⟩
      · rw [if_neg (by rw [decide_eq_false e]; exact Bool.false_ne_true)]
        have z : valV ((b, w) :: es') a = valV es' a := by simp [valV, e]
        rw [z]
        exact ih
theorem isKey_some {k : D} (h : isKey k = true) : ∃ a, dKey k = some a := by cases k <;> first | exact ⟨_, rfl⟩ | cases h
theorem key_v {Z : Addr → Prop} {H : Hp} {k : D} {a : Key} {v : V} (h : dKey k = some a) (r : RepT W Z H v k) : v = kV a := by
  cases k <;> simp [dKey] at h <;> subst h
  · exact r.int
  · exact r.str
theorem op_inDic (neg : Bool) (hu : X.A.units + 65 < cLine) : OpR X (compareOp (if neg then .NotIn else .In)) (rC W fun x y => match y with
    | .dic kvs => if isKey x = true then some (xor neg (dGet x kvs).isSome) else none
    | _ => none) := by
  intro pins s σ H x y v u Q I rx ry h
  obtain ⟨Z, dx, dy, b, hx, hy, e, q⟩ := h
  dsimp only at e
  split at e
  · rename_i kvs
    obtain ⟨hk, e⟩ := ite_some e
    subst e
    obtain ⟨k, ek⟩ := isKey_some hk
    obtain ⟨a, es, ea, hd, rk⟩ := hy
    subst ea
    cases ry
    have ev := key_v ek hx
    subst ev
    have hg : DGet H a (kV k) (valV es k) := .inl ⟨es, k, hd, rfl, rfl⟩
    have hv := RepK.val ek rk
    have hs : (valV es k).isSome = (dGet dx kvs).isSome := by
      cases e : dGet dx kvs with
      | none => rw [hv.2 e]; rfl
      | some d =>
        obtain ⟨w, e1, _⟩ := hv.1 d e
        rw [e1]
        rfl
    cases neg with
    | false => exact d_in (by omega) I hg rx fun s' I' => ⟨.bl _, H, I', rfl, by rw [hs]; simpa using q⟩
    | true => exact d_notIn (by omega) I hg rx fun s' I' => ⟨.bl _, H, I', rfl, by rw [hs]; simpa using q⟩
  · cases e
/-- a comparison that is no == and no «is» -/
theorem op_cmpD (hW : W.K = X.K) (hu : X.A.units + 65 < cLine) (op : CmpOp) : OpR X (compareOp op) (rC W fun a b => match op with
    | .Is => none
    | .IsNot => none
    | op => cmpD op a b) := by
  intro pins s σ H x y v u Q I rx ry h
  obtain ⟨Z, dx, dy, b, hx, hy, e, q⟩ := h
  dsimp only at e
  split at e
  · cases e
  · cases e
  unfold cmpD at e
  split at e
  · rw [hx.int] at rx; rw [hy.int] at ry; cases e
    exact op_lt pins s σ H _ _ v u Q I rx ry ⟨_, _, rfl, rfl, q⟩
  · rw [hx.int] at rx; rw [hy.int] at ry; cases e
    exact op_le pins s σ H _ _ v u Q I rx ry ⟨_, _, rfl, rfl, q⟩
  · rw [hx.int] at rx; rw [hy.int] at ry; cases e
    exact op_gt pins s σ H _ _ v u Q I rx ry ⟨_, _, rfl, rfl, q⟩
  · rw [hx.int] at rx; rw [hy.int] at ry; cases e
    exact op_ge pins s σ H _ _ v u Q I rx ry ⟨_, _, rfl, rfl, q⟩
  · rw [hx.str] at rx; rw [hy.str] at ry; cases e
    exact op_lt_str pins s σ H _ _ v u Q I rx ry ⟨_, _, rfl, rfl, q⟩
  · rw [hx.str] at rx; rw [hy.str] at ry; cases e
    exact op_le_str pins s σ H _ _ v u Q I rx ry ⟨_, _, rfl, rfl, q⟩
  · exact op_eqF hW hu pins s σ H _ _ v u Q I rx ry ⟨Z, _, _, b, hx, hy, e, q⟩
  · exact op_neF hW hu pins s σ H _ _ v u Q I rx ry ⟨Z, _, _, b, hx, hy, e, q⟩
  · simp_all
  · simp_all
  · rw [hx.str] at rx; rw [hy.str] at ry; cases e
    exact op_in_str pins s σ H _ _ v u Q I rx ry ⟨_, _, rfl, rfl, q⟩
  · rw [hx.str] at rx; rw [hy.str] at ry; cases e
    exact op_notin_str pins s σ H _ _ v u Q I rx ry ⟨_, _, rfl, rfl, q⟩
  · exact op_inF hW hu false pins s σ H _ _ v u Q I rx ry ⟨Z, _, _, b, hx, hy, by simpa using e, q⟩
  · exact op_inF hW hu false pins s σ H _ _ v u Q I rx ry ⟨Z, _, _, b, hx, hy, by simpa using e, q⟩
  · exact op_inF hW hu true pins s σ H _ _ v u Q I rx ry ⟨Z, _, _, b, hx, hy, by simpa using e, q⟩
  · exact op_inF hW hu true pins s σ H _ _ v u Q I rx ry ⟨Z, _, _, b, hx, hy, by simpa using e, q⟩
  · exact op_inDic false hu pins s σ H _ _ v u Q I rx ry ⟨Z, _, _, b, hx, hy, by simpa using e, q⟩
  · exact op_inDic true hu pins s σ H _ _ v u Q I rx ry ⟨Z, _, _, b, hx, hy, by simpa using e, q⟩
  · cases e
/-- a place -/
theorem atI_of {α : Type} {xs : List α} {i : Int} {x : α} (h : atD xs i = some x) : atI xs i = some x := by
  unfold atD at h
  unfold atI ixN
  by_cases h0 : 0 ≤ i
  · rw [if_pos h0] at h ⊢
    have hl := (List.getElem?_eq_some_iff.mp h).1
    rw [if_pos (by omega)]
    exact h
  · rw [if_neg h0] at h ⊢
    obtain ⟨h1, h2⟩ : -(xs.length : Int) ≤ i ∧ xs[(i + xs.length).toNat]? = some x := by
      split at h
      · exact ⟨by assumption, h⟩
      · cases h
    rw [if_pos h1]
    exact h2
theorem RepL.at {Z : Addr → Prop} {H : Hp} {ds : List D} {vs : List V} {i : Int} {d : D} (h : RepL W Z H vs ds) (e : atD ds i = some d) : ∃ v, atI vs i = some v ∧ RepD W Z H v d := by
  have hl := h.length
  obtain ⟨k, hk⟩ : ∃ k : Nat, ds[k]? = some d ∧ ∀ v, vs[k]? = some v → atD vs i = some v := by
    unfold atD at e ⊢
    by_cases h0 : 0 ≤ i
    · rw [if_pos h0] at e
      exact ⟨_, e, fun v ev => by rw [if_pos h0]; exact ev⟩
    · rw [if_neg h0] at e
      split at e
      · rename_i h1
        exact ⟨_, e, fun v ev => by rw [if_neg h0, hl, if_pos h1]; exact ev⟩
      · cases e
  obtain ⟨v, ev, r⟩ := h.get hk.1
  exact ⟨v, atI_of (hk.2 v ev), r⟩
theorem atI_map {α β : Type} (f : α → β) {xs : List α} {i : Int} {x : α} (h : atI xs i = some x) : atI (xs.map f) i = some (f x) := by
  unfold atI at h ⊢
  rw [List.length_map]
  cases e : ixN xs.length i with
  | none => rw [e] at h; cases h
  | some j =>
    rw [e] at h
    show (xs.map f)[j]? = some (f x)
    rw [List.getElem?_map, show xs[j]? = some x from h]
    rfl
theorem ix_D (hW : W.K = X.K) (hu : X.A.units + 65 < cLine) : IxR X (rD2 W fun a b => (getD a b).map dv) := by
  intro value slice pins s σ H x y v u Q I rx ry h hs
  obtain ⟨Z, dx, dy, rv, hx, hy, e, q⟩ := h
  obtain ⟨d, e1, er⟩ := Option.map_eq_some_iff.mp e
  subst er
  clear e
  have e := e1
  clear e1
  unfold getD at e
  split at e
  · obtain ⟨a, vs, ea, ha, ra⟩ := hx.tup
    subst ea
    rw [hy.int] at ry
    obtain ⟨w, ew, r⟩ := ra.at e
    exact ix_tup value slice pins s σ H _ _ v u Q I rx ry ⟨a, vs, _, w, rfl, rfl, hW ▸ ha, ew, q _ _ (Fresh.old r)⟩ hs
  · obtain ⟨a, vs, ea, ha, ra⟩ := hx
    subst ea
    rw [hy.int] at ry
    obtain ⟨w, ew, r⟩ := ra.at e
    exact ix_list value slice pins s σ H _ _ v u Q I rx ry ⟨a, vs, _, w, rfl, rfl, SqL.of ha, ew, q _ _ (Fresh.old r)⟩ hs
  · cases (show RepD W Z H x (.scr _) from hx) with
    | scr h1 =>
      rw [hy.int] at ry
      obtain ⟨n, en, ed⟩ := Option.map_eq_some_iff.mp e
      subst ed
      exact ix_list value slice pins s σ H _ _ v u Q I rx ry ⟨_, _, _, _, rfl, rfl, hW ▸ h1.sq, atI_map V.int (atI_of en), q _ _ (Fresh.old (.int n))⟩ hs
  · rw [hx.str] at rx
    rw [hy.int] at ry
    obtain ⟨hz, e⟩ := ite_some' e
    obtain ⟨c, ec, ed⟩ := Option.map_eq_some_iff.mp e
    subst ed
    exact ix_str value slice pins s σ H _ _ v u Q I rx ry ⟨_, _, c, rfl, rfl, by rw [← line_eq]; exact hz, atI_of ec, q _ _ (Fresh.old (.str _))⟩ hs
  · obtain ⟨hk, e⟩ := ite_some' e
    obtain ⟨k, ek⟩ := isKey_some hk
    obtain ⟨a, es, ea, hd, rk⟩ := hx
    subst ea
    cases rx
    have ev := key_v ek hy
    subst ev
    obtain ⟨w, ew, r⟩ := (RepK.val ek rk).1 d e
    have hg : DGet H a (kV k) (some w) := .inl ⟨es, k, hd, rfl, ew.symm⟩
    exact PyProof.Rows.tail_any (dict_typeIs I hg) PySem.F.slot_dict_getitem.lookup (d_getItem (by omega) I hg ry fun w' s3 I3 rw' => ⟨w, H, I3, rw', q _ _ (Fresh.old r)⟩) hs
  · cases e
theorem RepL.take {Z : Addr → Prop} {H : Hp} : ∀ (n : Nat) {ds : List D} {vs : List V}, RepL W Z H vs ds → RepL W Z H (vs.take n) (ds.take n)
  | 0, _, _, _ => .nil
  | _ + 1, _, _, .nil => .nil
  | n + 1, _, _, .cons h1 h2 => .cons h1 (RepL.take n h2)
theorem RepL.drop {Z : Addr → Prop} {H : Hp} : ∀ (n : Nat) {ds : List D} {vs : List V}, RepL W Z H vs ds → RepL W Z H (vs.drop n) (ds.drop n)
  | 0, _, _, h => h
  | _ + 1, _, _, .nil => .nil
  | n + 1, _, _, .cons _ h2 => RepL.drop n h2
theorem endOf_eq (n d : Nat) (i : Option Int) : HT.sIx n d i = endOf n d i := by cases i <;> rfl
theorem cutV_eq (xs : List V) (lo hi : Option Int) : cutV xs lo hi = cut xs lo hi := by unfold cutV cut; rw [endOf_eq, endOf_eq]
theorem RepL.cut {Z : Addr → Prop} {H : Hp} {ds : List D} {vs : List V} (h : RepL W Z H vs ds) (lo hi : Option Int) : RepL W Z H (cutV vs lo hi) (Pk.cut ds lo hi) := by
  rw [cutV_eq]
  unfold Pk.cut
  rw [h.length]
  exact RepL.take _ (RepL.drop _ h)
theorem RepL.ints {Z : Addr → Prop} {H : Hp} : ∀ ns : List Int, RepL W Z H (ns.map V.int) (ns.map D.int)
  | [] => .nil
  | n :: ns => .cons (.int n) (RepL.ints ns)
theorem cut_map {α β : Type} (f : α → β) (xs : List α) (lo hi : Option Int) : cut (xs.map f) lo hi = (cut xs lo hi).map f := by
  unfold cut
  rw [List.length_map, List.map_take, List.map_drop]
def rSl (W : Wd) : V → Option Int → Option Int → Hp → VK → Prop := fun x lo hi H Q => ∃ Z dx rv, RepT W Z H x dx ∧ slcO dx lo hi = some rv ∧ ∀ v H', Fresh W Z H H' v rv → Q v H'
theorem cut_whole {α : Type} {xs : List α} {lo hi : Option Int} (h1 : endOf xs.length 0 lo = 0) (h2 : endOf xs.length xs.length hi = xs.length) : cut xs lo hi = xs := by
  unfold cut
  rw [h1, h2]
  simp
theorem sl_D (hW : W.K = X.K) : SlR X (rSl W) := by
  intro pins s σ H x v vl vu lo hi sl Q I rx hs pl pu h
  obtain ⟨Z, dx, rv, hx, e, q⟩ := h
  unfold slcO at e
  split at e
  · obtain ⟨a, vs, ea, ha, ra⟩ := hx.tup
    subst ea
    cases e
    refine sl_tupA pins s σ H _ v vl vu lo hi sl Q I rx hs pl pu ⟨a, vs, rfl, hW ▸ ha, fun hw => ?_, fun _ p np => q _ _ (Fresh.tup np (ra.cut lo hi))⟩
    rw [endOf_eq, endOf_eq] at hw
    have := ra.cut lo hi
    rw [cutV_eq, cut_whole hw.1 hw.2] at this
    exact q _ _ (Fresh.old (.tup ha this))
  · obtain ⟨a, vs, ea, ha, ra⟩ := hx
    subst ea
    cases e
    exact sl_list pins s σ H _ v vl vu lo hi sl Q I rx hs pl pu ⟨a, vs, rfl, SqL.of ha, fun p np => q _ _ (Fresh.lst np (ra.cut lo hi))⟩
  · cases (show RepD W Z H x (.scr _) from hx) with
    | scr h1 =>
      cases e
      refine sl_list pins s σ H _ v vl vu lo hi sl Q I rx hs pl pu ⟨_, _, rfl, hW ▸ h1.sq, fun p np => q _ _ (Fresh.lst np ?_)⟩
      rw [← cut_map]
      exact (RepL.ints _).cut lo hi
  · rw [hx.str] at rx
    obtain ⟨hz, e⟩ := ite_some' e
    cases e
    refine sl_str pins s σ H _ v vl vu lo hi sl Q I rx hs pl pu ⟨_, rfl, by rw [← line_eq]; exact hz, ?_⟩
    have e : ∀ z : Str, cutS z lo hi = ⟨(cut z.cps.toList lo hi).toArray⟩ := fun z => by
      unfold cutS cut
      rw [endOf_eq, endOf_eq]
      rfl
    rw [e]
    exact q _ _ (Fresh.str _)
  · cases e
/-! ### calls -/
def bfVal : Bf → Value
  | .len => .builtin "len"
  | .all => .builtin "all"
  | .any => .builtin "any"
  | .sum => .builtin "sum"
  | .sorted => .builtin "sorted"
  | .list => .type "list"
  | .tuple => .type "tuple"
  | .dict => .type "dict"
  | .str => .type "str"
  | .repr => .builtin "repr"
  | .int => .type "int"
  | .max => .builtin "max"
  | .min => .builtin "min"
  | .divmod => .builtin "divmod"
  | _ => .none
theorem RepTs.one {Z : Addr → Prop} {H : Hp} {xs : List V} {d : D} (h : RepTs W Z H xs [d]) : ∃ x, xs = [x] ∧ RepT W Z H x d := by
  cases h with
  | cons h1 h2 =>
    cases h2
    exact ⟨_, rfl, h1⟩
theorem RepTs.two {Z : Addr → Prop} {H : Hp} {xs : List V} {d e : D} (h : RepTs W Z H xs [d, e]) : ∃ x y, xs = [x, y] ∧ RepT W Z H x d ∧ RepT W Z H y e := by
  cases h with
  | cons h1 h2 =>
    obtain ⟨y, e, h3⟩ := h2.one
    subst e
    exact ⟨_, y, rfl, h1, h3⟩
theorem RepL.bools {Z : Addr → Prop} {H : Hp} : ∀ {ds : List D} {vs : List V} {bs : List Bool}, RepL W Z H vs ds → boolsOf ds = some bs → vs = bs.map V.bl
  | [], _, _, h, e => by
    cases h
    cases e
    rfl
  | d :: ds, _, bs, h, e => by
    cases h with
    | cons h1 h2 =>
      cases d with
      | bl b =>
        obtain ⟨bs', e1, e2⟩ := Option.map_eq_some_iff.mp (show (boolsOf ds).map (b :: ·) = some bs from e)
        subst e2
        cases h1
        rw [RepL.bools h2 e1]
        rfl
      | _ => cases e
theorem RepL.intsOf {Z : Addr → Prop} {H : Hp} : ∀ {ds : List D} {vs : List V} {bs : List Int}, RepL W Z H vs ds → Pk.intsOf ds = some bs → vs = bs.map V.int
  | [], _, _, h, e => by
    cases h
    cases e
    rfl
  | d :: ds, _, bs, h, e => by
    cases h with
    | cons h1 h2 =>
      cases d with
      | int b =>
        obtain ⟨bs', e1, e2⟩ := Option.map_eq_some_iff.mp (show (Pk.intsOf ds).map (b :: ·) = some bs from e)
        subst e2
        cases h1
        rw [RepL.intsOf h2 e1]
        rfl
      | _ => cases e
theorem RepL.strsOf {Z : Addr → Prop} {H : Hp} : ∀ {ds : List D} {vs : List V} {bs : List Str}, RepL W Z H vs ds → Pk.strsOf ds = some bs → vs = bs.map V.str
  | [], _, _, h, e => by
    cases h
    cases e
    rfl
  | d :: ds, _, bs, h, e => by
    cases h with
    | cons h1 h2 =>
      cases d with
      | str b =>
        obtain ⟨bs', e1, e2⟩ := Option.map_eq_some_iff.mp (show (Pk.strsOf ds).map (b :: ·) = some bs from e)
        subst e2
        cases h1
        rw [RepL.strsOf h2 e1]
        rfl
      | _ => cases e
theorem RepK.len {Z : Addr → Prop} {H : Hp} : ∀ {kvs : List (D × D)} {es : List (Key × V)}, RepK W Z H es kvs → es.length = kvs.length
  | [], _, h => by cases h; rfl
  | _ :: _, _, h => by cases h with | cons _ _ h2 => rw [List.length_cons, List.length_cons, RepK.len h2]
theorem depthAll_mem : ∀ {ds : List D} {d : D}, d ∈ ds → d.pd.depth ≤ PyData.depthAll (pds ds)
  | x :: r, d, h => by
    show d.pd.depth ≤ PyData.depthAll (x.pd :: pds r)
    rw [PyData.depthAll]
    rcases List.mem_cons.mp h with rfl | h
    · omega
    · have := depthAll_mem h
      omega
theorem depth_mem {ds : List D} {d : D} (h : SeqAt.shaped (.list (pds ds)) = true) (m : d ∈ ds) : d.pd.depth ≤ 64 := by
  have h1 := SeqAt.depth_of_shaped h
  have h2 := depthAll_mem m
  rw [PyData.depth] at h1
  omega
theorem each_zip {K : PySem.W.Frag} {Z : Addr → Prop} {H : Hp} {pins : List (Addr × Obj)} {s : Shared} {σ : L2.St} (hW : W.K = X.K) (I : Inv X pins σ H s) : ∀ {ds : List D} {vs : List V} {us : List Value}, RepL W Z H vs ds → Vals vs us → (D.lst ds).flat = true →
    ∃ zs : List (V × D), zs.map (·.2) = ds ∧ PySem.W.EachIs (fun u z => RelV z.1 u ∧ RepD W Z H z.1 z.2) us zs ∧ PySem.W.EachIs (fun u z => ∃ as, PySem.Reads s.heap u z.2.pd as) us zs
  | [], _, _, h, r, _ => by
    cases h
    cases r
    exact ⟨[], rfl, .nil, .nil⟩
  | d :: ds, _, _, h, r, f => by
    cases h with
    | cons h1 h2 =>
      cases r with
      | cons r1 r2 =>
        have f' := Bool.and_eq_true_iff.mp f
        obtain ⟨zs, e, a, b⟩ := each_zip (K := K) hW I h2 r2 f'.2
        exact ⟨(_, d) :: zs, by rw [List.map_cons, e], .cons ⟨r1, h1⟩ a, .cons (Dp.reads I _ _ _ (hW ▸ RepD.dp f'.1 h1) r1) b⟩
theorem each_unzip {Z Z' : Addr → Prop} {H H' : Hp} (k : Keeps Z Z' H H') : ∀ {zs : List (V × D)} {us : List Value}, PySem.W.EachIs (fun u z => RelV z.1 u ∧ RepD W Z H z.1 z.2) us zs → Vals (zs.map (·.1)) us ∧ RepL W Z' H' (zs.map (·.1)) (zs.map (·.2))
  | [], _, h => by
    cases h
    exact ⟨.nil, .nil⟩
  | z :: zs, _, h => by
    cases h with
    | cons h1 h2 =>
      have t := each_unzip k h2
      exact ⟨.cons h1.1 t.1, .cons (h1.2.mono k) t.2⟩
open Classical in
theorem cb_sorted (hW : W.K = X.K) (hc : X.calm = true) (hu : X.A.units + 70 < cLine) {Z : Addr → Prop} {H : Hp} {pins : List (Addr × Obj)} {s : Shared} {σ : L2.St} {x : V} {us : List Value} {Q : VK} {ds fs : List D} (I : Inv X pins σ H s) (r : Vals [x] us)
    (hx : RepT W Z H x (.lst ds)) (e : sortD ds = some fs) (q : ∀ v H', Fresh W Z H H' v (tmpL fs) → Q v H') : wpAny (model X.prog X.w) X.A (call (.builtin "sorted") us) (EP X pins σ Q) X.xe s := by
  obtain ⟨⟨k1, k2, k3, k4⟩, e⟩ := ite_some e
  subst e
  obtain ⟨a, vs, rfl, ha, rl⟩ := hx
  obtain ⟨its, rv, hl, _⟩ := I.list (SqL.of ha)
  rw [Vals.ref1 r]
  obtain ⟨zs, ez, h1, h2⟩ := each_zip (K := X.K) hW I rl rv (ok_lst k1).1
  have emap : zs.map (fun z => z.2.pd) = ds.map D.pd := by rw [← ez, List.map_map]; rfl
  have hlen : zs.length = ds.length := by rw [← ez, List.length_map]
  refine PySem.W.sorted_data (R := fun u (z : V × D) => RelV z.1 u ∧ RepD W Z H z.1 z.2) (enc := fun (z : V × D) => z.2.pd) hl.isList h1 h2 (by rw [emap]; exact k2) (by rw [emap]; exact k3) (by rw [hlen]; exact k4) (fun z hz => ?_) fun out ol h3 => ?_
  · have hm : z.2 ∈ ds := by rw [← ez]; exact List.mem_map.mpr ⟨z, hz, rfl⟩
    have := depth_mem (ok_lst k1).2 hm
    show X.A.units + 2 + z.2.pd.depth < cLine
    omega
  · obtain ⟨ep, he'⟩ := PyProof.Rows.sortedAll_at s.heap its (List.toArray out)
    have en := I.hok.fresh (Nat.le_succ _)
    have kk : Keeps Z Z H H := Keeps.less fun _ z => z
    obtain ⟨u1, u2⟩ := each_unzip kk h3
    have hl2 : ((zs.mergeSort (PySem.W.dataLe false fun z : V × D => z.2.pd)).map (·.1)).length ≤ sizeLine := by
      rw [List.length_map, List.length_mergeSort, hlen]
      exact k4
    have es : (zs.mergeSort (PySem.W.dataLe false fun z : V × D => z.2.pd)).map (·.2) = ds.mergeSort (PySem.W.dataLe false D.pd) := by
      rw [← ez]
      exact List.map_mergeSort fun _ _ _ _ => rfl
    rw [es] at u2
    exact ⟨.ref _, L2.upd H (s.heap.objs.size + 1) (.lst _), I.laid (t' := s.toks) (fun _ _ => PyProof.Rows.sortedAll_old) (Nat.le_succ _) ⟨hl2, out, ep, u1, he'⟩, rfl, q _ _ (Fresh.lst en u2)⟩
mutual
theorem hasDict_flat : ∀ {d : D}, d.flat = true → d.pd.hasDict = false
  | .non, _ => rfl
  | .bl _, _ => rfl
  | .int _, _ => rfl
  | .str _, _ => rfl
  | .tup ds, h => hasDict_all (ds := ds) h
  | .lst ds, h => hasDict_all (ds := ds) h
theorem hasDict_all : ∀ {ds : List D}, flats ds = true → PyData.hasDictAll (pds ds) = false
  | [], _ => rfl
  | d :: ds, h => by
    have h' := Bool.and_eq_true_iff.mp h
    show (d.pd.hasDict || PyData.hasDictAll (pds ds)) = false
    rw [hasDict_flat h'.1, hasDict_all h'.2]
    rfl
end
open Classical in
theorem cb_repr (hW : W.K = X.K) (hg : X.A.guards = some []) (hu : X.A.units + 70 < cLine) {Z : Addr → Prop} {H : Hp} {pins : List (Addr × Obj)} {s : Shared} {σ : L2.St} {x : V} {us : List Value} {Q : VK} {d : D} {z : Str} (I : Inv X pins σ H s) (r : Vals [x] us)
    (hx : RepT W Z H x d) (e : reprD d = some z) (q : Q (.str z) H) : wpAny (model X.prog X.w) X.A (call (.builtin "repr") us) (EP X pins σ Q) X.xe s := by
  obtain ⟨⟨k1, k2, k3, k4⟩, e⟩ := ite_some e
  subst e
  rw [line_eq] at k4
  obtain ⟨u, rfl, ru⟩ := vals1 r
  have dp := RepT.dp k1 hx
  have fin : ∀ t, EP X pins σ Q (.str d.pd.shown t) { s with toks := s.toks + 1 } := fun t => ⟨.str _, H, I.tok _, ⟨t, rfl⟩, q⟩
  have heap : ∀ (a : Addr) (as : List Addr), u = .ref a → Reads s.heap (.ref a) d.pd as → wpAny (model X.prog X.w) X.A (call (.builtin "repr") [u]) (EP X pins σ Q) X.xe s := by
    intro a as eu rd
    subst eu
    exact PySem.repr_of_reads' rd k3 (PySem.PyData.noDict_hsm (hasDict_flat k1)) hg (by omega) (fun _ _ e => e) (fun h' t tk hk => ⟨.str _, H, I.kept hk, ⟨t, rfl⟩, q⟩) k4
  cases d with
  | non =>
    cases RepT.non hx
    cases ru
    exact PySem.P.repr_of_none (fin _)
  | bl b =>
    cases RepT.bl hx
    cases ru
    exact PySem.P.repr_of_bool (fin _)
  | int i =>
    cases RepT.int hx
    obtain ⟨t, rfl⟩ := ru
    exact PySem.P.repr_of_int (of_decide_eq_true k3) (fin _)
  | str x =>
    cases RepT.str hx
    obtain ⟨t, rfl⟩ := ru
    exact PySem.P.repr_of_str (fin _) k4
  | tup ds =>
    obtain ⟨as, rd⟩ := Dp.reads I _ _ u (hW ▸ dp) ru
    cases rd with
    | tuple h1 h2 h3 h4 => exact heap _ _ rfl (.tuple h1 h2 h3 h4)
  | lst ds =>
    obtain ⟨as, rd⟩ := Dp.reads I _ _ u (hW ▸ dp) ru
    cases rd with
    | list h1 h2 h3 h4 => exact heap _ _ rfl (.list h1 h2 h3 h4)
  | _ => cases k1
theorem RepK.any {Z : Addr → Prop} {H : Hp} {k : D} {a : Key} (hk : dKey k = some a) : ∀ {kvs : List (D × D)} {es : List (Key × V)}, RepK W Z H es kvs → (es.any fun kv => decide (kv.1 = a)) = kvs.any fun p => keyEq p.1 k
  | [], _, h => by cases h; rfl
  | (l, x) :: kvs, _, h => by
    cases h with
    | cons h0 _ h2 => rw [List.any_cons, List.any_cons, RepK.any hk h2, keyEq_some h0 hk]
theorem RepK.repl {Z : Addr → Prop} {H : Hp} {k x : D} {a : Key} {v : V} (hk : dKey k = some a) (hx : RepD W Z H v x) : ∀ {kvs : List (D × D)} {es : List (Key × V)}, RepK W Z H es kvs →
    RepK W Z H (es.map fun kv => if kv.1 = a then (kv.1, v) else kv) (kvs.map fun p => if keyEq p.1 k = true then (p.1, x) else p)
  | [], _, h => by cases h; exact .nil
  | (l, y) :: kvs, (b, w) :: es, h => by
    cases h with
    | cons h0 h1 h2 =>
      have ih := RepK.repl hk hx h2
      rw [List.map_cons, List.map_cons]
      by_cases e : b = a
      · rw [if_pos e, if_pos (by rw [keyEq_some h0 hk]; exact decide_eq_true e)]
        exact .cons h0 hx ih
      · rw [if_neg e, if_neg (by rw [keyEq_some h0 hk, decide_eq_false e]; exact Bool.false_ne_true)]
        exact .cons h0 h1 ih
theorem RepK.snoc {Z : Addr → Prop} {H : Hp} {k x : D} {a : Key} {v : V} (hk : dKey k = some a) (hx : RepD W Z H v x) : ∀ {kvs : List (D × D)} {es : List (Key × V)}, RepK W Z H es kvs → RepK W Z H (es ++ [(a, v)]) (kvs ++ [(k, x)])
  | [], _, h => by cases h; exact .cons hk hx .nil
  | _ :: _, _, h => by cases h with | cons h0 h1 h2 => exact .cons h0 h1 (RepK.snoc hk hx h2)
theorem RepK.put {Z : Addr → Prop} {H : Hp} {k x : D} {a : Key} {v : V} {kvs : List (D × D)} {es : List (Key × V)} (hk : dKey k = some a) (hx : RepD W Z H v x) (h : RepK W Z H es kvs) : RepK W Z H (putK es a v) (dPut k x kvs) := by
  unfold putK dPut
  rw [h.any hk]
  split
  · exact h.repl hk hx
  · exact h.snoc hk hx
theorem RepL.merge {Z : Addr → Prop} {H : Hp} : ∀ {ds : List D} {vs : List V} {acc out : List (D × D)} {es : List (Key × V)}, RepL W Z H vs ds → RepK W Z H es acc → mergeD ds acc = some out →
    ∃ (ps : List Addr) (pks : List (Key × V)), vs = ps.map V.ref ∧ Paired (fun p (kv : Key × V) => SqT W.K H p [kV kv.1, kv.2]) ps pks ∧ RepK W Z H (mergeK es pks) out
  | [], _, acc, out, es, h, g, e => by
    cases h
    cases e
    exact ⟨[], [], rfl, .nil, g⟩
  | d :: ds, _, acc, out, es, h, g, e => by
    cases h with
    | cons h1 h2 =>
      unfold mergeD at e
      split at e
      · cases ‹_ :: _ = []›
      · rename_i k x r acc' e0
        cases e0
        obtain ⟨hk, e⟩ := ite_some' e
        obtain ⟨a, ek⟩ := isKey_some hk
        cases h1 with
        | tup h3 h4 =>
          rename_i a0 vs0
          cases h4 with
          | cons h5 h6 =>
            cases h6 with
            | cons h6 h7 =>
              cases h7
              have ev := key_v ek h5.t
              subst ev
              obtain ⟨ps, pks, e1, e2, e3⟩ := RepL.merge h2 (g.put ek h6) e
              exact ⟨_ :: ps, (a, _) :: pks, by rw [e1]; rfl, .cons h3 e2, e3⟩
      · cases e
theorem Fresh.dic {Z : Addr → Prop} {H : Hp} {p : Addr} {es : List (Key × V)} {kvs : List (D × D)} (np : H p = none) (r : RepK W Z H es kvs) : Fresh W Z H (L2.upd H p (.dK es)) (.ref p) (.tmp (.dic kvs)) :=
  ⟨Same.upd np, p, rfl, np, es, upd_same, r.mono (Keeps.new (Same.upd np) np)⟩
theorem most_le : ∀ {is : List Int} {m : Int}, mostI is = some m → m ∈ is ∧ ∀ y ∈ is, y ≤ m
  | [], _, e => by cases e
  | [x], m, e => by
    cases e
    exact ⟨List.mem_cons_self, fun y h => by rw [List.mem_singleton.mp h]; exact Int.le_refl _⟩
  | x :: y :: r, m, e => by
    obtain ⟨k, e1, e2⟩ := Option.map_eq_some_iff.mp (show (mostI (y :: r)).map (fun z => if x < z then z else x) = some m from e)
    obtain ⟨h1, h2⟩ := most_le e1
    subst e2
    by_cases h : x < k
    · rw [if_pos h]
      refine ⟨List.mem_cons_of_mem _ h1, fun z hz => ?_⟩
      rcases List.mem_cons.mp hz with q | q
      · omega
      · exact h2 z q
    · rw [if_neg h]
      refine ⟨List.mem_cons_self, fun z hz => ?_⟩
      rcases List.mem_cons.mp hz with q | q
      · omega
      · have := h2 z q
        omega
theorem least_le : ∀ {is : List Int} {m : Int}, leastI is = some m → m ∈ is ∧ ∀ y ∈ is, m ≤ y
  | [], _, e => by cases e
  | [x], m, e => by
    cases e
    exact ⟨List.mem_cons_self, fun y h => by rw [List.mem_singleton.mp h]; exact Int.le_refl _⟩
  | x :: y :: r, m, e => by
    obtain ⟨k, e1, e2⟩ := Option.map_eq_some_iff.mp (show (leastI (y :: r)).map (fun z => if z < x then z else x) = some m from e)
    obtain ⟨h1, h2⟩ := least_le e1
    subst e2
    by_cases h : k < x
    · rw [if_pos h]
      refine ⟨List.mem_cons_of_mem _ h1, fun z hz => ?_⟩
      rcases List.mem_cons.mp hz with q | q
      · omega
      · exact h2 z q
    · rw [if_neg h]
      refine ⟨List.mem_cons_self, fun z hz => ?_⟩
      rcases List.mem_cons.mp hz with q | q
      · omega
      · have := h2 z q
        omega
theorem call_bf (hW : W.K = X.K) (hc : X.calm = true) (hg : X.A.guards = some []) (hu : X.A.units + 70 < cLine) (f : Bf) (hf : f ≠ .sortedSet ∧ f ≠ .lenSet ∧ f ≠ .sortedItems ∧ f ≠ .listValues) : CallR X (bfVal f) (rDs W (bfD f)) := by
  intro pins s σ H xs us Q I r h
  obtain ⟨Z, ds, rv, h0, e, q⟩ := h
  unfold bfD at e
  split at e
  · obtain ⟨x, ex, hx⟩ := h0.one
    subst ex
    rw [hx.str] at r
    obtain ⟨hz, e⟩ := ite_some e
    cases e
    exact call_len pins s σ H _ us Q I r ⟨_, _, rfl, ⟨by rw [← line_eq]; exact hz, rfl⟩, q _ _ (Fresh.int _)⟩
  · obtain ⟨x, ex, hx⟩ := h0.one
    subst ex
    obtain ⟨a, vs, ea, ha, ra⟩ := hx.tup
    subst ea
    cases e
    have hl := ra.length
    exact call_len_seq pins s σ H _ us Q I r ⟨a, vs, rfl, .inr (hW ▸ ha), by rw [hl]; exact q _ _ (Fresh.int _)⟩
  · obtain ⟨x, ex, hx⟩ := h0.one
    subst ex
    obtain ⟨a, vs, ea, ha, ra⟩ := hx
    subst ea
    cases e
    have hl := ra.length
    exact call_len_seq pins s σ H _ us Q I r ⟨a, vs, rfl, .inl (SqL.of ha), by rw [hl]; exact q _ _ (Fresh.int _)⟩
  · obtain ⟨x, ex, hx⟩ := h0.one
    subst ex
    obtain ⟨a, es, ea, ha, ra⟩ := hx
    subst ea
    cases e
    have hl := ra.len
    obtain ⟨u, eu, ru⟩ := vals1 r
    subst eu
    cases ru
    exact d_len I ha fun t s' I' => ⟨.int es.length, H, I', ⟨t, rfl⟩, by rw [hl]; exact q _ _ (Fresh.int _)⟩
  · obtain ⟨x, ex, hx⟩ := h0.one
    subst ex
    cases (show RepD W Z H x (.scr _) from hx) with
    | scr h1 =>
      cases e
      exact call_len_seq pins s σ H _ us Q I r ⟨_, _, rfl, .inl (hW ▸ h1.sq), by rw [List.length_map]; exact q _ _ (Fresh.int _)⟩
  · obtain ⟨x, ex, hx⟩ := h0.one
    subst ex
    obtain ⟨a, vs, ea, ha, ra⟩ := hx
    subst ea
    obtain ⟨bs, e1, e2⟩ := Option.map_eq_some_iff.mp e
    subst e2
    rw [ra.bools e1] at ha
    exact cr_all hc pins s σ H _ us Q I r ⟨a, bs, rfl, SqL.of ha, q _ _ (Fresh.bl _)⟩
  · obtain ⟨x, ex, hx⟩ := h0.one
    subst ex
    obtain ⟨a, vs, ea, ha, ra⟩ := hx
    subst ea
    obtain ⟨bs, e1, e2⟩ := Option.map_eq_some_iff.mp e
    subst e2
    rw [ra.bools e1] at ha
    exact cr_any hc pins s σ H _ us Q I r ⟨a, bs, rfl, SqL.of ha, q _ _ (Fresh.bl _)⟩
  · obtain ⟨x, ex, hx⟩ := h0.one
    subst ex
    obtain ⟨a, vs, ea, ha, ra⟩ := hx
    subst ea
    obtain ⟨bs, e1, e2⟩ := Option.map_eq_some_iff.mp e
    subst e2
    rw [ra.intsOf e1] at ha
    exact cr_sum hc pins s σ H _ us Q I r ⟨a, bs, rfl, SqL.of ha, q _ _ (Fresh.int _)⟩
  · obtain ⟨x, ex, hx⟩ := h0.one
    subst ex
    obtain ⟨fs, e1, e2⟩ := Option.map_eq_some_iff.mp e
    subst e2
    exact cb_sorted hW hc hu I r hx e1 q
  · obtain ⟨x, ex, hx⟩ := h0.one
    subst ex
    obtain ⟨a, vs, ea, ha, ra⟩ := hx
    subst ea
    cases e
    exact call_list_of pins s σ H _ us Q I r ⟨a, vs, rfl, .inl (SqL.of ha), fun p np => q _ _ (Fresh.lst np ra)⟩
  · obtain ⟨x, ex, hx⟩ := h0.one
    subst ex
    obtain ⟨a, vs, ea, ha, ra⟩ := hx.tup
    subst ea
    cases e
    exact call_list_of pins s σ H _ us Q I r ⟨a, vs, rfl, .inr (hW ▸ ha), fun p np => q _ _ (Fresh.lst np ra)⟩
  · obtain ⟨x, ex, hx⟩ := h0.one
    subst ex
    obtain ⟨a, vs, ea, ha, ra⟩ := hx.tup
    subst ea
    cases e
    exact call_tuple_of pins s σ H _ us Q I r ⟨a, vs, rfl, .inr ⟨hW ▸ ha, q _ _ (Fresh.old (.tup ha ra))⟩⟩
  · obtain ⟨x, ex, hx⟩ := h0.one
    subst ex
    obtain ⟨a, vs, ea, ha, ra⟩ := hx
    subst ea
    cases e
    exact call_tuple_of pins s σ H _ us Q I r ⟨a, vs, rfl, .inl ⟨SqL.of ha, fun p np => q _ _ (Fresh.tup np ra)⟩⟩
  · obtain ⟨x, ex, hx⟩ := h0.one
    subst ex
    rw [hx.int] at r
    obtain ⟨hz, e⟩ := ite_some e
    cases e
    exact call_str_int pins s σ H _ us Q I r ⟨_, rfl, hz, q _ _ (Fresh.str _)⟩
  · obtain ⟨x, ex, hx⟩ := h0.one
    subst ex
    obtain ⟨z, e1, e2⟩ := Option.map_eq_some_iff.mp e
    subst e2
    exact cb_repr hW hg hu I r hx e1 (q _ _ (Fresh.str _))
  · obtain ⟨x, ex, hx⟩ := h0.one
    subst ex
    rw [hx.bl] at r
    cases e
    exact call_int1 pins s σ H _ us Q I r (.inr ⟨_, rfl, q _ _ (Fresh.int _)⟩)
  · obtain ⟨x, ex, hx⟩ := h0.one
    subst ex
    rw [hx.int] at r
    cases e
    exact call_int1 pins s σ H _ us Q I r (.inl ⟨_, rfl, q _ _ (Fresh.int _)⟩)
  · obtain ⟨x, y, ex, hx, hy⟩ := h0.two
    subst ex
    rw [hx.int, hy.int] at r
    cases e
    exact call_max2 hc pins s σ H _ us Q I r ⟨_, _, rfl, q _ _ (Fresh.int _)⟩
  · obtain ⟨x, y, ex, hx, hy⟩ := h0.two
    subst ex
    rw [hx.int, hy.int] at r
    cases e
    exact call_min2 hc pins s σ H _ us Q I r ⟨_, _, rfl, q _ _ (Fresh.int _)⟩
  · obtain ⟨x, ex, hx⟩ := h0.one
    subst ex
    obtain ⟨a, vs, ea, ha, ra⟩ := hx
    subst ea
    split at e
    · rename_i is ei
      obtain ⟨m, e1, e2⟩ := Option.map_eq_some_iff.mp e
      subst e2
      rw [ra.intsOf ei] at ha
      obtain ⟨m1, m2⟩ := most_le e1
      refine cr_max hc pins s σ H _ us Q I r ⟨a, is, rfl, SqL.of ha, List.length_pos_of_mem m1, fun k k1 k2 => ?_⟩
      have e : k = m := Int.le_antisymm (m2 k k1) (k2 m m1)
      rw [e]
      exact q _ _ (Fresh.int _)
    · cases e
  · obtain ⟨x, ex, hx⟩ := h0.one
    subst ex
    obtain ⟨a, vs, ea, ha, ra⟩ := hx
    subst ea
    split at e
    · rename_i is ei
      obtain ⟨m, e1, e2⟩ := Option.map_eq_some_iff.mp e
      subst e2
      rw [ra.intsOf ei] at ha
      obtain ⟨m1, m2⟩ := least_le e1
      refine cr_min hc pins s σ H _ us Q I r ⟨a, is, rfl, SqL.of ha, List.length_pos_of_mem m1, fun k k1 k2 => ?_⟩
      have e : k = m := Int.le_antisymm (k2 m m1) (m2 k k1)
      rw [e]
      exact q _ _ (Fresh.int _)
    · cases e
  · obtain ⟨x, y, ex, hx, hy⟩ := h0.two
    subst ex
    rw [hx.int, hy.int] at r
    obtain ⟨hz, e⟩ := ite_some e
    cases e
    exact call_divmod pins s σ H _ us Q I r ⟨_, _, rfl, hz, fun p np => q _ _ (Fresh.tup np (.cons (.int _) (.cons (.int _) .nil)))⟩
  · obtain ⟨x, ex, hx⟩ := h0.one
    subst ex
    obtain ⟨a, vs, ea, ha, ra⟩ := hx
    subst ea
    obtain ⟨kvs, e1, e2⟩ := Option.map_eq_some_iff.mp e
    subst e2
    obtain ⟨ps, pks, ev, hp, rk⟩ := ra.merge .nil e1
    subst ev
    exact call_dictP hc pins s σ H _ us Q I r ⟨a, ps, pks, rfl, SqL.of ha, hW ▸ hp, fun p np => q _ _ (Fresh.dic np rk)⟩
  · exact (hf.1 rfl).elim
  · exact (hf.1 rfl).elim
  · exact (hf.2.1 rfl).elim
  · exact (hf.2.1 rfl).elim
  · exact (hf.2.2.1 rfl).elim
  · exact (hf.2.2.2 rfl).elim
  · cases e
end
end Pk
end
section
set_option Elab.async false
set_option linter.all false
set_option maxRecDepth 100000
/-! Expressions: what the small language says holds of the model. -/
namespace Pk
open PySem L2

/-! ### arguments -/
def tempOf : V → RV → Option Addr
  | .ref a, .tmp _ => some a
  | _, _ => none
def temps : List V → List RV → List Addr
  | v :: vs, a :: as => match tempOf v a with
    | some p => p :: temps vs as
    | none => temps vs as
  | _, _ => []
structure RepRs (W : Wd) (L0 L : Lo) (vs : List V) (as : List RV) : Prop where
  all : Paired (fun v a => RepR W L0 L v a) vs as
  nd : (temps vs as).Nodup
section
variable {W : Wd} {L0 L L' : Lo} {S : Pk.St}
theorem RepR.temp {v : V} {a : RV} {p : Addr} (h : RepR W L0 L v a) (e : tempOf v a = some p) : L.Z p ∧ ¬ L0.Z p ∧ p ∉ L.m := by
  cases a with
  | v x => cases v <;> cases e
  | tmp o =>
    obtain ⟨q, e1, h1, h2, h3, _⟩ := h
    subst e1
    cases e
    exact ⟨h1, h2, h3⟩
theorem temps_in : ∀ {vs : List V} {as : List RV} {p : Addr}, Paired (fun v a => RepR W L0 L v a) vs as → p ∈ temps vs as → L.Z p ∧ ¬ L0.Z p ∧ p ∉ L.m
  | _, _, _, .nil, h => by cases h
  | v :: vs, a :: as, p, .cons r t, h => by
    unfold temps at h
    cases e : tempOf v a with
    | none =>
      rw [e] at h
      exact temps_in t h
    | some q =>
      rw [e] at h
      rcases List.mem_cons.mp h with h | h
      · rw [h]
        exact r.temp e
      · exact temps_in t h
theorem RepRs.nil : RepRs W L0 L [] [] := ⟨.nil, List.nodup_nil⟩
theorem RepRs.step {vs : List V} {as : List RV} (s : Stp L L') (h : RepRs W L0 L vs as) : RepRs W L0 L' vs as := ⟨Paired.mapP h.all fun _ _ r => r.step s, h.nd⟩
theorem RepRs.from {vs : List V} {as : List RV} (s : Stp L0 L) (h : RepRs W L L' vs as) : RepRs W L0 L' vs as := ⟨Paired.mapP h.all fun _ _ r => r.from s, h.nd⟩
/-- one more, ahead: evaluated from L0 to L, the others from L to L' -/
theorem RepRs.cons {v : V} {a : RV} {vs : List V} {as : List RV} (s : Stp L0 L) (t : Stp L L') (r : RepR W L0 L v a) (h : RepRs W L L' vs as) : RepRs W L0 L' (v :: vs) (a :: as) := by
  refine ⟨.cons (r.step t) (h.from s).all, ?_⟩
  unfold temps
  cases e : tempOf v a with
  | none => exact h.nd
  | some p => exact List.nodup_cons.mpr ⟨fun m => (temps_in h.all m).2.1 (r.temp e).1, h.nd⟩
theorem RepRs.looks (hL : Ok W L S) : ∀ {vs : List V} {as : List RV} {ds : List D}, Paired (fun v a => RepR W L0 L v a) vs as → Pk.looks S as = some ds → RepTs W L.Z L.H vs ds
  | _, _, ds, .nil, e => by
    cases e
    exact .nil
  | v :: vs, a :: as, ds, .cons r t, e => by
    unfold Pk.looks at e
    split at e
    · rename_i x xs e1 e2
      cases e
      exact .cons (r.look hL e1) (RepRs.looks hL t e2)
    · cases e
/-- data that stand as they are -/
theorem RepR.dat {v : V} {a : RV} {d : D} (h : RepR W L0 L v a) (e : a.toD = some d) : RepD W (fun b => L.Z b ∧ tempOf v a ≠ some b) L.H v d := by
  cases a with
  | v x =>
    cases x with
    | d x =>
      cases e
      exact RepD.mono (Keeps.less fun _ z => z.1) h
    | r i => cases e
  | tmp o =>
    obtain ⟨p, ev, _, _, _, r⟩ := h
    subst ev
    have nz : ¬ (L.Z p ∧ tempOf (.ref p) (.tmp o) ≠ some p) := fun z => z.2 rfl
    have less : Keeps L.Z (fun b => L.Z b ∧ tempOf (.ref p) (.tmp o) ≠ some b) L.H L.H := Keeps.less fun _ z => z.1
    cases o with
    | lst ds =>
      obtain ⟨vs, q, r⟩ := r
      cases e
      exact .lst nz q (r.mono less)
    | dic kvs =>
      obtain ⟨vs, q, r⟩ := r
      cases e
      exact .dic nz (.inl q) (r.mono less)
    | ins c fs =>
      obtain ⟨C, dx, gs, hc, q, r⟩ := r
      obtain ⟨fd, e1, e2⟩ := Option.map_eq_some_iff.mp (show (fsD fs).map (D.ins c) = some d from e)
      subst e2
      exact .ins nz hc q ((r.f e1).mono less)
end
def RdA (W : Wd) (Wx : WX) (m : Pk.Env → M (List RV)) : TA := fun σ H Q => ∃ L ρ S, L.H = H ∧ Ok W L S ∧ RepE W L σ ρ ∧ Out W (fun c d H => Wx c d σ H) L S (m ρ S) fun as S' L' => ∀ vs, RepRs W L L' vs as → Q vs L'.H
/-- a test -/
def RdT (W : Wd) (Wx : WX) (m : Pk.Env → M Bool) : TT := fun σ H Q => ∃ L ρ S, L.H = H ∧ Ok W L S ∧ RepE W L σ ρ ∧ Out W (fun c d H => Wx c d σ H) L S (m ρ S) fun b S' L' => Q b L'.H

section
variable {X : Cx} {W : Wd} {Wx : WX} {σ : L2.St} {H : Hp} {Q : VK}
theorem out_lookAll {E : XK} {L : Lo} {S : Pk.St} {as : List RV} {β : Type} {f : List D → M β} {P : β → Pk.St → Lo → Prop} (hL : Ok W L S) (h : Out W E L S (bnd (lookAll as) f S) P) : ∃ ds, looks S as = some ds ∧ Out W E L S (f ds S) P := by
  have h1 := h.bnd
  obtain ⟨ds, e, q⟩ := Out.lift hL (show Out W E L S (lift (looks S as) S) _ from h1)
  exact ⟨ds, e, q⟩
theorem out_look1 {E : XK} {L : Lo} {S : Pk.St} {a : RV} {β : Type} {f : D → M β} {P : β → Pk.St → Lo → Prop} (hL : Ok W L S) (h : Out W E L S (bnd (look1 a) f S) P) : ∃ d, a.look S = some d ∧ Out W E L S (f d S) P := by
  have h1 := h.bnd
  obtain ⟨ds, e, q⟩ := Out.lift hL (show Out W E L S (lift (a.look S) S) _ from h1)
  exact ⟨ds, e, q⟩
theorem looks_two {S : Pk.St} {a b : RV} {ds : List D} (e : looks S [a, b] = some ds) : ∃ x y, ds = [x, y] ∧ a.look S = some x ∧ b.look S = some y := by
  unfold looks at e
  split at e
  · rename_i x xs e1 e2
    cases e
    unfold looks at e2
    split at e2
    · rename_i y ys e3 e4
      cases e2
      cases e4
      exact ⟨x, y, rfl, e1, e3⟩
    · cases e2
  · cases e
/-- two operands and a read-only step -/
theorem RdE.two {ma mb : Pk.Env → M RV} {f : D → D → Option RV} {g : List D → M RV} (hg : ∀ x y, g [x, y] = lift (f x y))
    (h : RdE W Wx (fun ρ => bnd (ma ρ) fun x => bnd (mb ρ) fun y => bnd (lookAll [x, y]) g) σ H Q) : tOp (rD2 W f) (RdE W Wx ma) (RdE W Wx mb) σ H Q := by
  obtain ⟨L, ρ, S, rfl, hL, hE, h⟩ := h
  refine RdE.go hL hE h fun v1 a1 S1 L1 s1 o1 r1 h1 => RdE.go o1 (hE.step s1) h1 fun v2 a2 S2 L2 s2 o2 r2 h2 => ?_
  obtain ⟨ds, e, h3⟩ := out_lookAll o2 h2
  obtain ⟨x, y, rfl, e1, e2⟩ := looks_two e
  rw [hg] at h3
  obtain ⟨rv, e3, q⟩ := h3.lifts
  refine ⟨L2.Z, x, y, rv, (r1.step s2).look o2 e1, r2.look o2 e2, e3, fun v' H' fr => ?_⟩
  obtain ⟨L3, eH, s3, o3, r3, q3⟩ := Fresh.done o2 fr q
  subst eH
  exact q3 v' (r3.from (s1.trans s2))
/-- one operand and a read-only step -/
def rD1 (W : Wd) (f : D → Option RV) : V → Hp → VK → Prop := fun x H Q => ∃ Z dx rv, RepT W Z H x dx ∧ f dx = some rv ∧ ∀ v H', Fresh W Z H H' v rv → Q v H'
theorem RdE.one {ma : Pk.Env → M RV} {f : D → Option RV} {g : D → M RV} (hg : ∀ x, g x = lift (f x))
    (h : RdE W Wx (fun ρ => bnd (ma ρ) fun x => bnd (look1 x) g) σ H Q) : tUn (rD1 W f) (RdE W Wx ma) σ H Q := by
  obtain ⟨L, ρ, S, rfl, hL, hE, h⟩ := h
  refine RdE.go hL hE h fun v1 a1 S1 L1 s1 o1 r1 h1 => ?_
  obtain ⟨x, e, h3⟩ := out_look1 o1 h1
  rw [hg] at h3
  obtain ⟨rv, e3, q⟩ := h3.lifts
  refine ⟨L1.Z, x, rv, r1.look o1 e, e3, fun v' H' fr => ?_⟩
  obtain ⟨L3, eH, s3, o3, r3, q3⟩ := Fresh.done o1 fr q
  subst eH
  exact q3 v' (r3.from s1)
/-- arguments and a read-only step -/
theorem RdE.args {ma : Pk.Env → M (List RV)} {f : List D → Option RV} (h : RdE W Wx (fun ρ => bnd (ma ρ) fun as => bnd (lookAll as) fun ds => lift (f ds)) σ H Q) :
    tCB (rDs W f) (RdA W Wx ma) σ H Q := by
  obtain ⟨L, ρ, S, rfl, hL, hE, h⟩ := h
  refine ⟨L, ρ, S, rfl, hL, hE, h.bnd.imp fun as S1 L1 s1 o1 q1 h1 vs r1 => ?_⟩
  obtain ⟨ds, e, h3⟩ := out_lookAll o1 h1
  obtain ⟨rv, e3, q⟩ := h3.lifts
  refine ⟨L1.Z, ds, rv, RepRs.looks o1 r1.all e, e3, fun v' H' fr => ?_⟩
  obtain ⟨L3, eH, s3, o3, r3, q3⟩ := Fresh.done o1 fr q
  subst eH
  exact q3 v' (r3.from s1)
theorem RdA.nil {Qa : List V → Hp → Prop} (h : RdA W Wx (fun _ => ret []) σ H Qa) : tNil σ H Qa := by
  obtain ⟨L, ρ, S, rfl, hL, hE, h⟩ := h
  exact (Out.ret hL h) [] RepRs.nil
theorem RdA.cons {ma : Pk.Env → M RV} {mb : Pk.Env → M (List RV)} {Qa : List V → Hp → Prop} (h : RdA W Wx (fun ρ => bnd (ma ρ) fun x => bnd (mb ρ) fun xs => ret (x :: xs)) σ H Qa) : tCons (RdE W Wx ma) (RdA W Wx mb) σ H Qa := by
  obtain ⟨L, ρ, S, rfl, hL, hE, h⟩ := h
  refine RdE.go hL hE h fun v1 a1 S1 L1 s1 o1 r1 h1 => ?_
  refine ⟨L1, ρ, S1, rfl, o1, hE.step s1, h1.bnd.imp fun as S2 L2 s2 o2 q2 h2 vs r2 => ?_⟩
  exact (Out.ret o2 h2) (v1 :: vs) (.cons s1 s2 r1 r2)
/-- a constant -/
theorem RdE.const {v : V} {d : D} (hr : ∀ Z H, RepD W Z H v d) (h : RdE W Wx (fun _ => ret (dv d)) σ H Q) : tC v σ H Q := by
  obtain ⟨L, ρ, S, rfl, hL, hE, h⟩ := h
  exact (Out.ret hL h) v (hr _ _)
theorem RdE.var {i : Nat} (h : RdE W Wx (fun ρ => match ρ[i]? with
    | some (some x) => ret (.v x)
    | _ => fail) σ H Q) : tVar i σ H Q := by
  obtain ⟨L, ρ, S, rfl, hL, hE, h⟩ := h
  dsimp only at h
  cases e : ρ[i]? with
  | none =>
    rw [e] at h
    exact h.elim
  | some o =>
    rw [e] at h
    cases o with
    | none => exact h.elim
    | some x =>
      obtain ⟨v, e', r⟩ := hE.var i x e
      exact ⟨v, e', (Out.ret hL h) v r⟩
/-! ### fewer places out of bounds -/
section
variable {L0 L L' : Lo} {S : Pk.St} {Z' : Addr → Prop}
theorem RepV.less (h : ∀ b, Z' b → L.Z b) {v : V} {x : Val} (r : RepV W L v x) : RepV W ⟨Z', L.m, L.H⟩ v x := by
  cases x with
  | d x => exact RepD.mono (Keeps.less h) r
  | r i => exact r
theorem RepFV.less (h : ∀ b, Z' b → L.Z b) : ∀ {fs : List (Nat × Val)} {gs : List (Str × V)}, RepFV W L gs fs → RepFV W ⟨Z', L.m, L.H⟩ gs fs
  | [], _, r => by cases r; exact .nil
  | (_, _) :: _, _, r => by cases r with | cons h0 h1 h2 => exact .cons h0 (h1.less h) (RepFV.less h h2)
theorem RepO.less (h : ∀ b, Z' b → L.Z b) {a : Addr} {o : MObj} (r : RepO W L a o) : RepO W ⟨Z', L.m, L.H⟩ a o := by
  cases o with
  | lst ds =>
    obtain ⟨vs, e, r⟩ := r
    exact ⟨vs, e, r.mono (Keeps.less h)⟩
  | dic kvs =>
    obtain ⟨vs, e, r⟩ := r
    exact ⟨vs, e, r.mono (Keeps.less h)⟩
  | ins c fs =>
    obtain ⟨C, dx, gs, hc, e, r⟩ := r
    exact ⟨C, dx, gs, hc, e, r.less h⟩
theorem Ok.less (o : Ok W L S) (h : ∀ b, Z' b → L.Z b) (hm : ∀ a ∈ L.m, Z' a) : Ok W ⟨Z', L.m, L.H⟩ S :=
  ⟨fun a z => o.zH a (h a z), hm, o.nd, o.len, fun i a ob e1 e2 => (o.cel i a ob e1 e2).less h⟩
theorem Stp.less (s : Stp L0 L) (h : ∀ b, Z' b → L.Z b) (hm : ∀ a ∈ L.m, Z' a) (h0 : ∀ b, L0.Z b → Z' b) : Stp L0 ⟨Z', L.m, L.H⟩ :=
  ⟨h0, fun a z n => s.nw a (h a z) n, s.mm, s.mr, s.mz, hm, s.kp, s.tp⟩
theorem temps_of {v : V} {a : RV} {p : Addr} : ∀ {vs : List V} {as : List RV} {i : Nat}, vs[i]? = some v → as[i]? = some a → tempOf v a = some p → p ∈ temps vs as
  | v' :: vs, a' :: as, 0, e1, e2, e => by
    simp at e1 e2
    subst e1 e2
    unfold temps
    rw [e]
    exact List.mem_cons_self
  | v' :: vs, a' :: as, i + 1, e1, e2, e => by
    simp at e1 e2
    unfold temps
    split
    · exact List.mem_cons_of_mem _ (temps_of e1 e2 e)
    · exact temps_of e1 e2 e
  | [], _, _, e1, _, _ => by simp at e1
  | _ :: _, [], _, _, e2, _ => by simp at e2
theorem RepRs.datsAux (hz : ∀ b, Z' b → L.Z b) : ∀ {vs : List V} {as : List RV} {ds : List D}, (∀ b, Z' b → b ∉ temps vs as) → Paired (fun v a => RepR W L0 L v a) vs as → dats as = some ds → RepL W Z' L.H vs ds
  | _, _, ds, _, .nil, e => by
    cases e
    exact .nil
  | v :: vs, a :: as, ds, hn, .cons r t, e => by
    unfold dats at e
    split at e
    · rename_i x xs e1 e2
      cases e
      refine .cons ((r.dat e1).mono (Keeps.less fun b z => ⟨hz b z, fun q => hn b z (temps_of (i := 0) rfl rfl q)⟩)) (RepRs.datsAux hz (fun b z m => hn b z ?_) t e2)
      unfold temps
      split
      · exact List.mem_cons_of_mem _ m
      · exact m
    · cases e
/-- the temporaries of arguments are kept as data -/
theorem RepRs.dats (s : Stp L0 L) (o : Ok W L S) {vs : List V} {as : List RV} {ds : List D} (h : RepRs W L0 L vs as) (e : Pk.dats as = some ds) :
    ∃ L', L'.H = L.H ∧ Stp L0 L' ∧ Ok W L' S ∧ RepL W L'.Z L.H vs ds := by
  have h1 : ∀ b, (L.Z b ∧ b ∉ temps vs as) → L.Z b := fun b z => z.1
  have hm : ∀ a ∈ L.m, L.Z a ∧ a ∉ temps vs as := fun a m => ⟨o.mz a m, fun q => (temps_in h.all q).2.2 m⟩
  have h0 : ∀ b, L0.Z b → L.Z b ∧ b ∉ temps vs as := fun b z => ⟨s.zz b z, fun q => (temps_in h.all q).2.1 z⟩
  exact ⟨⟨fun b => L.Z b ∧ b ∉ temps vs as, L.m, L.H⟩, rfl, s.less h1 hm h0, o.less h1 hm, RepRs.datsAux h1 (fun b z => z.2) h.all e⟩
/-- one value's -/
theorem RepR.frz (s : Stp L0 L) (o : Ok W L S) {v : V} {a : RV} {x : Val} (h : RepR W L0 L v a) (e : a.frz = some x) :
    ∃ L', L'.H = L.H ∧ Stp L0 L' ∧ Ok W L' S ∧ RepV W L' v x := by
  cases a with
  | v y =>
    cases e
    exact ⟨L, rfl, s, o, h⟩
  | tmp ob =>
    obtain ⟨d, e1, e2⟩ := Option.map_eq_some_iff.mp (show ob.toD.map Val.d = some x from e)
    subst e2
    obtain ⟨L', eH, s', o', r⟩ := RepRs.dats (vs := [v]) (as := [.tmp ob]) (ds := [d]) s o ⟨.cons h .nil, by unfold temps; cases tempOf v (.tmp ob) <;> simp [temps]⟩ (by unfold Pk.dats; rw [show (RV.tmp ob).toD = some d from e1]; rfl)
    cases r with
    | cons r _ => exact ⟨L', eH, s', o', by rw [show RepV W L' v (.d d) = RepD W L'.Z L'.H v d from rfl, eH]; exact r⟩
end
theorem RepL.le {L : Lo} {S : Pk.St} {Z : Addr → Prop} {H : Hp} {ds : List D} {vs : List V} (h : RepL W Z H vs ds) : vs.length = ds.length := h.length
/-- a tuple of written items -/
theorem RdE.tup {ma : Pk.Env → M (List RV)} {f : List D → Option RV} (hf : ∀ ds rv, f ds = some rv → ds.length ≤ line ∧ rv = dv (.tup ds)) (h : RdE W Wx (fun ρ => bnd (ma ρ) fun as => lift ((dats as).bind f)) σ H Q) : tTup (RdA W Wx ma) σ H Q := by
  obtain ⟨L, ρ, S, rfl, hL, hE, h⟩ := h
  refine ⟨L, ρ, S, rfl, hL, hE, h.bnd0.imp fun as S1 L1 s1 o1 q1 h1 vs r1 => ?_⟩
  obtain ⟨rv, e, h2⟩ := h1.lifts
  obtain ⟨ds, e1, e2⟩ := Option.bind_eq_some_iff.mp e
  obtain ⟨hl, ev⟩ := hf ds rv e2
  subst ev
  obtain ⟨L2, eH, s2, o2, r2⟩ := r1.dats s1 o1 e1
  refine ⟨by rw [r2.length, ← line_eq]; exact hl, fun p np => ?_⟩
  rw [← eH] at np r2 ⊢
  obtain ⟨L3, e3, s3, o3, r3, _⟩ := Fresh.done (E := fun _ _ _ => False) (P := fun _ _ _ => True) o2 (Fresh.tup np r2) (show Out W _ L2 S1 (.ok (dv (.tup ds)) S1) _ from fun _ _ _ _ => trivial)
  rw [← e3]
  exact h2 L3 (s2.trans s3) o3 q1 _ (r3.from s2)
/-- a list of written items -/
theorem RdE.lst {ma : Pk.Env → M (List RV)} {f : List D → Option RV} (hf : ∀ ds rv, f ds = some rv → ds.length ≤ line ∧ rv = tmpL ds) (h : RdE W Wx (fun ρ => bnd (ma ρ) fun as => lift ((dats as).bind f)) σ H Q) : tLst (RdA W Wx ma) σ H Q := by
  obtain ⟨L, ρ, S, rfl, hL, hE, h⟩ := h
  refine ⟨L, ρ, S, rfl, hL, hE, h.bnd0.imp fun as S1 L1 s1 o1 q1 h1 vs r1 => ?_⟩
  obtain ⟨rv, e, h2⟩ := h1.lifts
  obtain ⟨ds, e1, e2⟩ := Option.bind_eq_some_iff.mp e
  obtain ⟨hl, ev⟩ := hf ds rv e2
  subst ev
  obtain ⟨L2, eH, s2, o2, r2⟩ := r1.dats s1 o1 e1
  refine ⟨by rw [r2.length, ← line_eq]; exact hl, fun p np => ?_⟩
  rw [← eH] at np r2 ⊢
  obtain ⟨L3, e3, s3, o3, r3, _⟩ := Fresh.done (E := fun _ _ _ => False) (P := fun _ _ _ => True) o2 (Fresh.lst np r2) (show Out W _ L2 S1 (.ok (tmpL ds) S1) _ from fun _ _ _ _ => trivial)
  rw [← e3]
  exact h2 L3 (s2.trans s3) o3 q1 _ (r3.from s2)
end
end Pk
end
section
set_option Elab.async false
set_option linter.all false
set_option maxRecDepth 100000
/-! Truth, comparisons, places. -/
namespace Pk
open PySem L2

section
variable {X : Cx} {W : Wd} {Wx : WX} {σ : L2.St} {H : Hp} {Q : VK}
theorem truth_v (hW : W.K = X.K) {Z : Addr → Prop} {v : V} {d : D} {k : Bool} (h : RepT W Z H v d) (e : truth d = some k) : TruV X.K v H k := by
  cases d with
  | non => rw [h.non]; cases e; rfl
  | bl b => rw [h.bl]; cases e; rfl
  | int i => rw [h.int]; cases e; rfl
  | str z =>
    rw [h.str]
    obtain ⟨hz, e⟩ := ite_some (show (if z.length ≤ line then some ((z.length : Int) != 0) else none) = some k from e)
    exact ⟨by rw [← line_eq]; exact hz, e.symm⟩
  | tup ds =>
    obtain ⟨a, vs, ea, ha, r⟩ := h.tup
    subst ea
    cases e
    refine .inr (.inl ⟨vs, hW ▸ ha, ?_⟩)
    cases r <;> rfl
  | lst ds =>
    obtain ⟨a, vs, ea, ha, r⟩ := h
    subst ea
    cases e
    refine .inl ⟨vs, SqL.of ha, ?_⟩
    cases r <;> rfl
  | dic _ => cases e
  | ins _ _ => cases e
  | exc _ _ => cases e
  | fn _ => cases e
  | scr _ => cases e
/-- the truth of a value at hand -/
theorem out_test {E : XK} {L0 L : Lo} {S : Pk.St} {v : V} {a : RV} {P : Bool → Pk.St → Lo → Prop} (hW : W.K = X.K) (hL : Ok W L S) (r : RepR W L0 L v a) (h : Out W E L S (bnd (look1 a) (fun d => lift (truth d)) S) P) : ∃ k, TruV X.K v L.H k ∧ P k S L := by
  obtain ⟨d, e, h1⟩ := out_look1 hL h
  obtain ⟨k, e1, q⟩ := h1.lift hL
  exact ⟨k, truth_v hW (r.look hL e) e1, q⟩
/-- an expression as a test -/
theorem n_truth {e : Expr} {m : Pk.Env → M RV} (hW : W.K = X.K) (h : PE X e (RdE W Wx m)) (hp : ∀ whole, isTrue e X.env whole = (do let v ← whole; standAt e.pos; holding [v] (truthy v))) :
    PT X e (RdT W Wx fun ρ => testOf (m ρ)) := by
  refine PT.imp (pt_truth h hp) fun σ H Q q => ?_
  obtain ⟨L, ρ, S, rfl, hL, hE, q⟩ := q
  refine RdE.go hL hE q fun v a S1 L1 s1 o1 r1 q1 => ?_
  exact out_test hW o1 r1 q1
theorem bnd_assoc {α β γ : Type} (m : M α) (f : α → M β) (g : β → M γ) : bnd (bnd m f) g = bnd m fun a => bnd (f a) g := by
  funext S
  unfold bnd
  cases m S <;> rfl
theorem bnd_ret {α β : Type} (a : α) (f : α → M β) : bnd (ret a) f = f a := rfl
theorem t_not {e : Expr} {pos : Pos} {m : Pk.Env → M Bool} (h : PT X e (RdT W Wx m)) : PT X (.UnaryOp .Not e pos) (RdT W Wx fun ρ => testOf (bnd (m ρ) fun b => ret (bv (!b)))) := by
  refine PT.imp (pt_not h) fun σ H Q q => ?_
  obtain ⟨L, ρ, S, rfl, hL, hE, q⟩ := q
  dsimp only at q
  unfold testOf at q
  rw [bnd_assoc] at q
  refine ⟨L, ρ, S, rfl, hL, hE, q.bnd.imp fun b S1 L1 s1 o1 q1 h1 => ?_⟩
  exact Out.ret o1 (show Out W _ L1 S1 (ret (!b) S1) _ from h1)
theorem n_not {e : Expr} {pos : Pos} {m : Pk.Env → M RV} (hW : W.K = X.K) (h : PE X e (RdE W Wx m)) : PE X (.UnaryOp .Not e pos) (RdE W Wx fun ρ => bnd (testOf (m ρ)) fun b => ret (bv (!b))) := by
  refine PE.imp (pe_notT h) fun σ H Q q => ?_
  obtain ⟨L, ρ, S, rfl, hL, hE, q⟩ := q
  dsimp only at q
  unfold testOf at q
  rw [bnd_assoc] at q
  refine RdE.go hL hE q fun v a S1 L1 s1 o1 r1 q1 => ?_
  obtain ⟨k, t, q2⟩ := out_test hW o1 r1 (P := fun b S' L' => Out W (fun c d H => Wx c d σ H) L' S' (ret (bv (!b)) S') fun rv S' L' => ∀ v, RepR W L L' v rv → Q v L'.H) q1.bnd
  exact ⟨k, t, Out.ret o1 q2 _ (.bl _)⟩
/-- and, or: values -/
theorem n_and {a b : Expr} {rest : List Expr} {pos : Pos} {ma mb : Pk.Env → M RV} (hW : W.K = X.K) (ha : PE X a (RdE W Wx ma)) (hb : PE X (.BoolOp .And (b :: rest) pos) (RdE W Wx mb)) :
    PE X (.BoolOp .And (a :: b :: rest) pos) (RdE W Wx fun ρ => bnd (ma ρ) fun x => bnd (testOf (ret x)) fun t => if t = true then mb ρ else ret x) := by
  refine PE.imp (pe_andT ha hb) fun σ H Q q => ?_
  obtain ⟨L, ρ, S, rfl, hL, hE, q⟩ := q
  refine RdE.go hL hE q fun v x S1 L1 s1 o1 r1 q1 => ?_
  obtain ⟨k, t, q2⟩ := out_test hW o1 r1 (P := fun k S' L' => Out W (fun c d H => Wx c d σ H) L' S' ((if k = true then mb ρ else ret x) S') fun rv S' L' => ∀ v, RepR W L L' v rv → Q v L'.H) q1.bnd
  refine ⟨k, t, ?_⟩
  cases k with
  | true => exact ⟨L1, ρ, S1, rfl, o1, hE.step s1, q2.imp fun rv S' L' s' o' _ h v r => h v (r.from s1)⟩
  | false => exact Out.ret o1 q2 _ r1
theorem n_or {a b : Expr} {rest : List Expr} {pos : Pos} {ma mb : Pk.Env → M RV} (hW : W.K = X.K) (ha : PE X a (RdE W Wx ma)) (hb : PE X (.BoolOp .Or (b :: rest) pos) (RdE W Wx mb)) :
    PE X (.BoolOp .Or (a :: b :: rest) pos) (RdE W Wx fun ρ => bnd (ma ρ) fun x => bnd (testOf (ret x)) fun t => if t = true then ret x else mb ρ) := by
  refine PE.imp (pe_orT ha hb) fun σ H Q q => ?_
  obtain ⟨L, ρ, S, rfl, hL, hE, q⟩ := q
  refine RdE.go hL hE q fun v x S1 L1 s1 o1 r1 q1 => ?_
  obtain ⟨k, t, q2⟩ := out_test hW o1 r1 (P := fun k S' L' => Out W (fun c d H => Wx c d σ H) L' S' ((if k = true then ret x else mb ρ) S') fun rv S' L' => ∀ v, RepR W L L' v rv → Q v L'.H) q1.bnd
  refine ⟨k, t, ?_⟩
  cases k with
  | false => exact ⟨L1, ρ, S1, rfl, o1, hE.step s1, q2.imp fun rv S' L' s' o' _ h v r => h v (r.from s1)⟩
  | true => exact Out.ret o1 q2 _ r1
/-- and, or: tests -/
theorem test_and (ma mb : M RV) : testOf (bnd ma fun x => bnd (testOf (ret x)) fun t => if t = true then mb else ret x) = bnd (testOf ma) fun t => if t = true then testOf mb else ret false := by
  funext S
  unfold testOf bnd look1
  cases ma S with
  | exc x S1 => rfl
  | err => rfl
  | ok a S1 =>
    unfold ret lift
    dsimp only
    cases e : a.look S1 with
    | none => rfl
    | some d =>
      cases e2 : truth d with
      | none => simp [ret, fail, e2]
      | some k => cases k <;> simp [ret, fail, e2, e]
theorem test_or (ma mb : M RV) : testOf (bnd ma fun x => bnd (testOf (ret x)) fun t => if t = true then ret x else mb) = bnd (testOf ma) fun t => if t = true then ret true else testOf mb := by
  funext S
  unfold testOf bnd look1
  cases ma S with
  | exc x S1 => rfl
  | err => rfl
  | ok a S1 =>
    unfold ret lift
    dsimp only
    cases e : a.look S1 with
    | none => rfl
    | some d =>
      cases e2 : truth d with
      | none => simp [ret, fail, e2]
      | some k => cases k <;> simp [ret, fail, e2, e]
theorem t_and {a b : Expr} {rest : List Expr} {pos : Pos} {ma mb : Pk.Env → M RV} (ha : PT X a (RdT W Wx fun ρ => testOf (ma ρ))) (hb : PW X (.BoolOp .And (b :: rest) pos) (RdT W Wx fun ρ => testOf (mb ρ))) :
    PW X (.BoolOp .And (a :: b :: rest) pos) (RdT W Wx fun ρ => testOf (bnd (ma ρ) fun x => bnd (testOf (ret x)) fun t => if t = true then mb ρ else ret x)) := by
  refine ⟨fun whole pins s σ H Q I q => (pw_and ha hb).run whole pins s σ H Q I ?_⟩
  obtain ⟨L, ρ, S, rfl, hL, hE, q⟩ := q
  dsimp only at q
  rw [test_and] at q
  refine ⟨L, ρ, S, rfl, hL, hE, q.bnd.imp fun k S1 L1 s1 o1 _ q1 => ?_⟩
  cases k with
  | true => exact ⟨L1, ρ, S1, rfl, o1, hE.step s1, q1⟩
  | false => exact Out.ret o1 q1
theorem t_or {a b : Expr} {rest : List Expr} {pos : Pos} {ma mb : Pk.Env → M RV} (ha : PT X a (RdT W Wx fun ρ => testOf (ma ρ))) (hb : PW X (.BoolOp .Or (b :: rest) pos) (RdT W Wx fun ρ => testOf (mb ρ))) :
    PW X (.BoolOp .Or (a :: b :: rest) pos) (RdT W Wx fun ρ => testOf (bnd (ma ρ) fun x => bnd (testOf (ret x)) fun t => if t = true then ret x else mb ρ)) := by
  refine ⟨fun whole pins s σ H Q I q => (pw_or ha hb).run whole pins s σ H Q I ?_⟩
  obtain ⟨L, ρ, S, rfl, hL, hE, q⟩ := q
  dsimp only at q
  rw [test_or] at q
  refine ⟨L, ρ, S, rfl, hL, hE, q.bnd.imp fun k S1 L1 s1 o1 _ q1 => ?_⟩
  cases k with
  | false => exact ⟨L1, ρ, S1, rfl, o1, hE.step s1, q1⟩
  | true => exact Out.ret o1 q1
theorem t_one {a : Expr} {op : BoolOp} {pos : Pos} {ma : Pk.Env → M Bool} (ha : PT X a (RdT W Wx ma)) : PW X (.BoolOp op [a] pos) (RdT W Wx ma) := by
  cases op with
  | And => exact pw_and1 ha
  | Or => exact pw_or1 ha
/-- a if t else b -/
theorem n_ite {t a b : Expr} {pos : Pos} {mt : Pk.Env → M Bool} {ma mb : Pk.Env → M RV} (ht : PT X t (RdT W Wx mt)) (ha : PE X a (RdE W Wx ma)) (hb : PE X b (RdE W Wx mb)) :
    PE X (.IfExp t a b pos) (RdE W Wx fun ρ => bnd (mt ρ) fun k => if k = true then ma ρ else mb ρ) := by
  refine PE.imp (pe_ifExp ht ha hb) fun σ H Q q => ?_
  obtain ⟨L, ρ, S, rfl, hL, hE, q⟩ := q
  refine ⟨L, ρ, S, rfl, hL, hE, q.bnd.imp fun k S1 L1 s1 o1 _ q1 => ?_⟩
  cases k with
  | true => exact ⟨L1, ρ, S1, rfl, o1, hE.step s1, q1.imp fun rv S' L' s' o' _ h v r => h v (r.from s1)⟩
  | false => exact ⟨L1, ρ, S1, rfl, o1, hE.step s1, q1.imp fun rv S' L' s' o' _ h v r => h v (r.from s1)⟩
/-! ### comparisons -/
/-- a comparison that may run an own __eq__ -/
def rCm (W : Wd) (cm : RV → RV → M RV) : R2 := fun x y H Q => ∃ L0 L S a b, L.H = H ∧ Ok W L S ∧ RepR W L0 L x a ∧ RepR W L0 L y b ∧ Out W (fun _ _ _ => False) L S (cm a b S) fun rv S' L' => ∀ v, RepR W L L' v rv → Q v L'.H
abbrev rCmp (W : Wd) (op : CmpOp) : R2 := rCm W (cmpV op)
def rCmpT (W : Wd) (op : CmpOp) : V → V → Hp → (Bool → Hp → Prop) → Prop := fun x y H Q => ∃ L0 L S a b, L.H = H ∧ Ok W L S ∧ RepR W L0 L x a ∧ RepR W L0 L y b ∧ Out W (fun _ _ _ => False) L S (testOf (cmpV op a b) S) fun k S' L' => Q k L'.H
/-- cmpV raises nothing -/
theorem nox_exc {α : Type} {m : M α} {S S' : Pk.St} {e : D} (h : nox m S = .exc e S') : False := by
  unfold nox at h
  split at h
  · cases h
  · cases h
theorem lift_exc {α : Type} {o : Option α} {S S' : Pk.St} {e : D} (h : lift o S = .exc e S') : False := by
  cases o <;> cases h
theorem eqV_exc {a b : RV} {S S' : Pk.St} {e : D} (h : eqV a b S = .exc e S') : False := by
  unfold eqV at h
  split at h
  · exact lift_exc h
  · cases h
theorem cmpV_exc {op : CmpOp} {a b : RV} {S S' : Pk.St} {e : D} (h : cmpV op a b S = .exc e S') : False := by
  unfold cmpV at h
  split at h
  · exact eqV_exc h
  · unfold bnd at h
    split at h
    · unfold notV bnd look1 at h
      split at h
      · exact lift_exc h
      · rename_i h1
        exact lift_exc h1
      · cases h
    · rename_i h1
      exact eqV_exc h1
    · cases h
  · split at h <;> cases h
  · split at h <;> cases h
  · exact lift_exc h
theorem Out.noexc {α : Type} {E E' : XK} {L : Lo} {S : Pk.St} {r : Res α} {P : α → Pk.St → Lo → Prop} (hn : ∀ e S', r ≠ .exc e S') (h : Out W E L S r P) : Out W E' L S r P := by
  cases r with
  | ok a S' => exact h
  | exc e S' => exact (hn e S' rfl).elim
  | err => exact h
/-- a comparison's value -/
theorem n_cmp {a b : Expr} {op : CmpOp} {pos : Pos} {cm : RV → RV → M RV} {ma mb : Pk.Env → M RV} (hx : ∀ a b S e S', cm a b S = .exc e S' → False) (ho : OpR X (compareOp op) (rCm W cm)) (ha : PE X a (RdE W Wx ma)) (hb : PE X b (RdE W Wx mb)) (hm : behindInMarks op b = false) :
    PE X (.Compare a [op] [b] pos) (RdE W Wx fun ρ => bnd (ma ρ) fun x => bnd (mb ρ) fun y => cm x y) := by
  refine PE.imp (pe_cmpR ho ha hb hm) fun σ H Q q => ?_
  obtain ⟨L, ρ, S, rfl, hL, hE, q⟩ := q
  refine RdE.go hL hE q fun v1 a1 S1 L1 s1 o1 r1 q1 => RdE.go o1 (hE.step s1) q1 fun v2 a2 S2 L2 s2 o2 r2 q2 => ?_
  refine ⟨L, L2, S2, a1, a2, rfl, o2, r1.step s2, r2.from s1, ?_⟩
  exact (Out.noexc (fun _ _ => fun h => hx _ _ _ _ _ h) q2).imp fun rv S' L' s' o' _ h v r => h v (r.from (s1.trans s2))
theorem out_bool {E : XK} {L : Lo} {S : Pk.St} {r : M RV} {P : Bool → Pk.St → Lo → Prop} (h : Out W E L S (testOf r S) P) (hb : ∀ rv S', r S = .ok rv S' → ∃ k, rv = bv k) : Out W E L S (r S) fun rv S' L' => ∃ k, rv = bv k ∧ P k S' L' := by
  unfold testOf at h
  have h1 := h.bnd
  cases e : r S with
  | err => rw [e] at h1; exact h1
  | exc x S' => rw [e] at h1; exact h1
  | ok rv S' =>
    rw [e] at h1
    intro L' s o q
    have h2 := h1 L' s o q
    obtain ⟨k, ek⟩ := hb rv S' e
    subst ek
    exact ⟨k, rfl, Out.ret o (show Out W E L' S' (ret k S') P from h2)⟩
/-! ### what a comparison gives is a truth value -/
theorem nox_ok {α : Type} {m : M α} {S S' : Pk.St} {a : α} (h : nox m S = .ok a S') : m S = .ok a S' := by
  unfold nox at h
  split at h
  · rename_i e
    cases h
    exact e
  · cases h
theorem lift_ok {α : Type} {o : Option α} {S S' : Pk.St} {a : α} (h : lift o S = .ok a S') : o = some a ∧ S' = S := by
  cases o with
  | none => cases h
  | some b =>
    cases h
    exact ⟨rfl, rfl⟩
theorem bnd_ok {α β : Type} {m : M α} {f : α → M β} {S S' : Pk.St} {b : β} (h : bnd m f S = .ok b S') : ∃ a S1, m S = .ok a S1 ∧ f a S1 = .ok b S' := by
  unfold bnd at h
  split at h
  · rename_i a S1 e
    exact ⟨a, S1, e, h⟩
  · cases h
  · cases h
theorem boolOnly_ok {v rv : RV} {S S' : Pk.St} (h : boolOnly v S = .ok rv S') : ∃ k, rv = bv k := by
  unfold boolOnly at h
  split at h
  · cases h
    exact ⟨_, rfl⟩
  · cases h
theorem eqV_ok {a b rv : RV} {S S' : Pk.St} (h : eqV a b S = .ok rv S') : ∃ k, rv = bv k := by
  unfold eqV at h
  split at h
  · obtain ⟨e, _⟩ := lift_ok h
    obtain ⟨ds, _, e⟩ := Option.bind_eq_some_iff.mp e
    split at e
    · obtain ⟨k, _, e⟩ := Option.map_eq_some_iff.mp e
      exact ⟨k, e.symm⟩
    · cases e
  · cases h
theorem cmpV_ok {op : CmpOp} {a b rv : RV} {S S' : Pk.St} (h : cmpV op a b S = .ok rv S') : ∃ k, rv = bv k := by
  unfold cmpV at h
  split at h
  · exact eqV_ok h
  · obtain ⟨v, S1, h1, h2⟩ := bnd_ok h
    unfold notV at h2
    obtain ⟨d, S2, _, h3⟩ := bnd_ok h2
    obtain ⟨e, _⟩ := lift_ok h3
    unfold notD at e
    split at e
    · cases e
      exact ⟨_, rfl⟩
    · cases e
  · split at h
    · cases h; exact ⟨_, rfl⟩
    · cases h
  · split at h
    · cases h; exact ⟨_, rfl⟩
    · cases h
  · obtain ⟨e, _⟩ := lift_ok h
    obtain ⟨ds, _, e⟩ := Option.bind_eq_some_iff.mp e
    split at e
    · obtain ⟨k, _, e⟩ := Option.map_eq_some_iff.mp e
      exact ⟨k, e.symm⟩
    · cases e
/-- a comparison as a test -/
theorem t_cmp {a b : Expr} {op : CmpOp} {pos : Pos} {cm : RV → RV → M RV} {ma mb : Pk.Env → M RV} (hx : ∀ a b S e S', cm a b S = .exc e S' → False) (hk : ∀ a b S rv S', cm a b S = .ok rv S' → ∃ k, rv = bv k) (ho : OpR X (compareOp op) (rCm W cm)) (ha : PE X a (RdE W Wx ma)) (hb : PE X b (RdE W Wx mb)) (hm : behindInMarks op b = false) :
    PT X (.Compare a [op] [b] pos) (RdT W Wx fun ρ => testOf (bnd (ma ρ) fun x => bnd (mb ρ) fun y => cm x y)) := by
  refine PT.imp (pt_cmpR ho ha hb hm) fun σ H Q q => ?_
  obtain ⟨L, ρ, S, rfl, hL, hE, q⟩ := q
  have e : testOf (bnd (ma ρ) fun x => bnd (mb ρ) fun y => cm x y) = bnd (ma ρ) fun x => bnd (mb ρ) fun y => testOf (cm x y) := by
    unfold testOf
    rw [bnd_assoc]
    congr 1
    funext x
    rw [bnd_assoc]
  dsimp only at q
  rw [e] at q
  show RdE W Wx ma σ L.H (fun x H1 => RdE W Wx mb σ H1 (fun y H2 => rCm W cm x y H2 (fun x H' => ∃ k, x = .bl k ∧ Q k H')))
  refine RdE.go hL hE q fun v1 a1 S1 L1 s1 o1 r1 q1 => ?_
  refine RdE.go o1 (hE.step s1) q1 fun v2 a2 S2 L2 s2 o2 r2 q2 => ?_
  refine ⟨L, L2, S2, a1, a2, rfl, o2, r1.step s2, r2.from s1, ?_⟩
  refine (Out.noexc (fun _ _ => fun h => hx _ _ _ _ _ h) (out_bool q2 fun rv S' h => hk _ _ _ _ _ h)).imp fun rv S' L' s' o' _ h v r => ?_
  obtain ⟨k, ek, h⟩ := h
  subst ek
  cases (show RepD W L'.Z L'.H v (.bl k) from r)
  exact ⟨k, rfl, h⟩
/-- a op b op' c -/
theorem n_chn {a b c : Expr} {op op' : CmpOp} {pos : Pos} {ma mb mc : Pk.Env → M RV} (ho : OpR X (compareOp op) (rCmp W op)) (ho' : OpR X (compareOp op') (rCmp W op')) (ha : PE X a (RdE W Wx ma)) (hb : PE X b (RdE W Wx mb)) (hc : PE X c (RdE W Wx mc))
    (hm : lastMarks [op, op'] [b, c] = false) :
    PE X (.Compare a [op, op'] [b, c] pos) (RdE W Wx fun ρ => bnd (ma ρ) fun x => bnd (mb ρ) fun y => bnd (testOf (cmpV op x y)) fun t => if t = true then bnd (mc ρ) fun z => cmpV op' y z else ret (bv false)) := by
  refine PE.imp (pe_chain ho ho' ha hb hc hm) fun σ H Q q => ?_
  obtain ⟨L, ρ, S, rfl, hL, hE, q⟩ := q
  show RdE W Wx ma σ L.H (fun x H1 => RdE W Wx mb σ H1 (fun y H2 => rCmp W op x y H2 (fun z H3 => ∃ k, z = .bl k ∧ (if k = true then RdE W Wx mc σ H3 fun w' H4 => rCmp W op' y w' H4 Q else Q (.bl false) H3))))
  refine RdE.go hL hE q fun v1 a1 S1 L1 s1 o1 r1 q1 => ?_
  refine RdE.go o1 (hE.step s1) q1 fun v2 a2 S2 L2 s2 o2 r2 q2 => ?_
  refine ⟨L, L2, S2, a1, a2, rfl, o2, r1.step s2, r2.from s1, ?_⟩
  refine (Out.noexc (fun _ _ => fun h => cmpV_exc h) (out_bool q2.bnd fun rv S' h => cmpV_ok h)).imp fun rv S3 L3 s3 o3 _ h v r => ?_
  obtain ⟨k, ek, h⟩ := h
  subst ek
  cases (show RepD W L3.Z L3.H v (.bl k) from r)
  refine ⟨k, rfl, ?_⟩
  cases k with
  | false => exact Out.ret o3 h _ (.bl _)
  | true =>
    rw [if_pos rfl] at h ⊢
    refine RdE.go o3 ((hE.step s1).step (s2.trans s3)) h fun v4 a4 S4 L4 s4 o4 r4 q4 => ?_
    refine ⟨L, L4, S4, a2, a4, rfl, o4, ((r2.from s1).step s3).step s4, r4.from (s1.trans (s2.trans s3)), ?_⟩
    exact (Out.noexc (fun _ _ => fun h => cmpV_exc h) q4).imp fun rv S' L' s' o' _ h v r => h v (r.from (s1.trans (s2.trans (s3.trans s4))))
theorem t_chn {a b c : Expr} {op op' : CmpOp} {pos : Pos} {ma mb mc : Pk.Env → M RV} (ho : OpR X (compareOp op) (rCmp W op)) (ho' : OpR X (compareOp op') (rCmp W op')) (ha : PE X a (RdE W Wx ma)) (hb : PE X b (RdE W Wx mb)) (hc : PE X c (RdE W Wx mc))
    (hm : lastMarks [op, op'] [b, c] = false) :
    PT X (.Compare a [op, op'] [b, c] pos) (RdT W Wx fun ρ => testOf (bnd (ma ρ) fun x => bnd (mb ρ) fun y => bnd (testOf (cmpV op x y)) fun t => if t = true then bnd (mc ρ) fun z => cmpV op' y z else ret (bv false))) := by
  refine PT.imp (pt_chain ho ho' ha hb hc hm) fun σ H Q q => ?_
  obtain ⟨L, ρ, S, rfl, hL, hE, q⟩ := q
  have e : testOf (bnd (ma ρ) fun x => bnd (mb ρ) fun y => bnd (testOf (cmpV op x y)) fun t => if t = true then bnd (mc ρ) fun z => cmpV op' y z else ret (bv false)) =
      bnd (ma ρ) fun x => bnd (mb ρ) fun y => bnd (testOf (cmpV op x y)) fun t => if t = true then bnd (mc ρ) fun z => testOf (cmpV op' y z) else ret false := by
    unfold testOf
    rw [bnd_assoc]
    congr 1
    funext x
    rw [bnd_assoc]
    congr 1
    funext y
    rw [bnd_assoc]
    congr 1
    funext t
    cases t with
    | true => rw [if_pos rfl, if_pos rfl, bnd_assoc]
    | false => rfl
  dsimp only at q
  rw [e] at q
  show RdE W Wx ma σ L.H (fun x H1 => RdE W Wx mb σ H1 (fun y H2 => rCmp W op x y H2 (fun z H3 => ∃ k, z = .bl k ∧ (if k = true then RdE W Wx mc σ H3 fun w' H4 => rCmp W op' y w' H4 (fun x H' => ∃ k, x = .bl k ∧ Q k H') else (∃ k, V.bl false = .bl k ∧ Q k H3)))))
  refine RdE.go hL hE q fun v1 a1 S1 L1 s1 o1 r1 q1 => ?_
  refine RdE.go o1 (hE.step s1) q1 fun v2 a2 S2 L2 s2 o2 r2 q2 => ?_
  refine ⟨L, L2, S2, a1, a2, rfl, o2, r1.step s2, r2.from s1, ?_⟩
  refine (Out.noexc (fun _ _ => fun h => cmpV_exc h) (out_bool q2.bnd fun rv S' h => cmpV_ok h)).imp fun rv S3 L3 s3 o3 _ h v r => ?_
  obtain ⟨k, ek, h⟩ := h
  subst ek
  cases (show RepD W L3.Z L3.H v (.bl k) from r)
  refine ⟨k, rfl, ?_⟩
  cases k with
  | false => exact ⟨false, rfl, Out.ret o3 h⟩
  | true =>
    rw [if_pos rfl] at h ⊢
    refine RdE.go o3 ((hE.step s1).step (s2.trans s3)) h fun v4 a4 S4 L4 s4 o4 r4 q4 => ?_
    refine ⟨L, L4, S4, a2, a4, rfl, o4, ((r2.from s1).step s3).step s4, r4.from (s1.trans (s2.trans s3)), ?_⟩
    refine (Out.noexc (fun _ _ => fun h => cmpV_exc h) (out_bool q4 fun rv S' h => cmpV_ok h)).imp fun rv S' L' s' o' _ h v r => ?_
    obtain ⟨k, ek, h⟩ := h
    subst ek
    cases (show RepD W L'.Z L'.H v (.bl k) from r)
    exact ⟨k, rfl, h⟩
theorem isN_v {L0 L : Lo} {v : V} {a : RV} (h : RepR W L0 L v a) : decide (v = .non) = a.isNon := by
  cases a with
  | tmp o =>
    obtain ⟨p, e, _⟩ := h
    subst e
    rfl
  | v x =>
    cases x with
    | r i =>
      obtain ⟨p, _, e⟩ := h
      subst e
      rfl
    | d d => cases (show RepD W L.Z L.H v d from h) <;> rfl
theorem op_cmpV (hW : W.K = X.K) (hu : X.A.units + 65 < cLine) (op : CmpOp) : OpR X (compareOp op) (rCmp W op) := by
  intro pins s σ H x y v u Q I rx ry h
  obtain ⟨L0, L, S, a, b, rfl, hL, ra, rb, h⟩ := h
  have data : ∀ {op : CmpOp} {g : D → D → Option Bool}, OpR X (compareOp op) (rC W g) → Out W (fun _ _ _ => False) L S (lift ((looks S [a, b]).bind fun ds => match ds with
      | [x, y] => (g x y).map bv
      | _ => none) S) (fun rv S' L' => ∀ v, RepR W L L' v rv → Q v L'.H) → wpAny (model X.prog X.w) X.A (compareOp op v u) (EP X pins σ Q) X.xe s := by
    intro op g hop h
    obtain ⟨rv, e, q⟩ := Out.lift hL h
    obtain ⟨ds, e1, e2⟩ := Option.bind_eq_some_iff.mp e
    obtain ⟨d1, d2, e3, l1, l2⟩ := looks_two e1
    subst e3
    obtain ⟨k, e4, e5⟩ := Option.map_eq_some_iff.mp e2
    subst e5
    exact hop pins s σ L.H x y v u Q I rx ry ⟨L.Z, d1, d2, k, ra.look hL l1, rb.look hL l2, e4, q _ (.bl _)⟩
  have isn : ∀ {op : CmpOp} {k : Bool} {r : R2}, OpR X (compareOp op) r → (∀ x y H Q, y = .non ∧ Q (.bl (xor k (decide (x = .non)))) H → r x y H Q) → Out W (fun _ _ _ => False) L S (if noneD (b.look S) = true then .ok (bv (xor k a.isNon)) S else .err) (fun rv S' L' => ∀ v, RepR W L L' v rv → Q v L'.H) → wpAny (model X.prog X.w) X.A (compareOp op v u) (EP X pins σ Q) X.xe s := by
    intro op k r hop hr h
    split at h
    · rename_i e
      have e : b.look S = some .non := by
        cases e1 : b.look S with
        | none => rw [e1] at e; cases e
        | some d => cases d <;> first | rfl | (rw [e1] at e; cases e)
      refine hop pins s σ L.H x y v u Q I rx ry (hr _ _ _ _ ⟨(rb.look hL e).non, ?_⟩)
      rw [isN_v ra]
      exact Out.ret hL h _ (.bl _)
    · exact h.elim
  cases op with
  | Is => exact isn op_isN (k := false) (fun x y H Q h => by simpa using h) (by simpa [cmpV] using h)
  | IsNot => exact isn op_notN (k := true) (fun x y H Q h => by simpa using h) (by simpa [cmpV] using h)
  | Eq =>
    refine data (op_eqF hW hu) ?_
    have h : Out W (fun _ _ _ => False) L S (eqV a b S) _ := h
    unfold eqV at h
    split at h
    · exact h
    · exact h.elim
  | NotEq =>
    refine data (op_neF hW hu) ?_
    have h : Out W (fun _ _ _ => False) L S (bnd (eqV a b) notV S) _ := h
    unfold eqV bnd at h
    cases ca : clsOf S a with
    | some c => simp only [ca] at h; exact h.elim
    | none =>
    cases cb : clsOf S b with
    | some c => simp only [ca, cb] at h; exact h.elim
    | none =>
    simp only [ca, cb] at h
    cases e : looks S [a, b] with
    | none => rw [e] at h; exact h
    | some ds =>
      obtain ⟨x', y', e1, _, _⟩ := looks_two e
      subst e1
      rw [e] at h
      dsimp only [Option.bind_some] at h ⊢
      cases e2 : eqD x' y' with
      | none => rw [e2] at h; exact h
      | some k =>
        rw [e2] at h
        exact h
  | _ => exact data (op_cmpD hW hu _) h
end
end Pk
end
section
set_option Elab.async false
set_option linter.all false
set_option maxRecDepth 100000
/-! What stands around: the forms of expressions, what a def promises, calls. -/
namespace Pk
open PySem L2 PyProof.Rows

/-! ### forms -/
theorem nice_of {T : Tab} {N : List Str} {n : Nat} {sc : Scope} {e : Expr} {m : ME} (h : trE T N n sc e = some m) : nice e = true := by
  cases n with
  | zero => unfold trE at h; cases h
  | succ n =>
    unfold trE at h
    cases e <;> first | rfl | (simp at h)
theorem nice_marks {e : Expr} (h : nice e = true) (op : CmpOp) : behindInMarks op e = false := by
  cases e <;> first | rfl | (cases h)
theorem nice_star {e : Expr} (h : nice e = true) (es : List Expr) (env : PySem.Env) : starEach (e :: es) env = (false, eval e env) :: starEach es env := by
  cases e <;> first | rfl | (cases h)
theorem base_ok {o : Expr} (h : baseOk o = true) (hn : nice o = true) (f : Str) (env : PySem.Env) : attributeBase o f env (eval o env) = eval o env := by
  cases o <;> first | rfl | (cases hn) | skip
  rename_i fe as ks p
  cases fe <;> first | rfl | skip
  cases as <;> first | rfl | (cases h)
theorem stars_nice : ∀ {es : List Expr}, (∀ e ∈ es, nice e = true) → ∀ (env : PySem.Env) (pos : Pos), (backTo pos (starEach es env)).any (·.1) = false
  | [], _, _, _ => rfl
  | e :: es, h, env, pos => by
    rw [nice_star (h e (List.mem_cons_self ..))]
    show (false || (backTo pos (starEach es env)).any (·.1)) = false
    rw [stars_nice (fun x q => h x (List.mem_cons_of_mem _ q))]
    rfl
theorem stars_none : ∀ {es : List Expr}, (∀ e ∈ es, nice e = true) → ∀ (env : PySem.Env) (pos : Pos), (backTo pos (starEach es env)).all (fun x => !x.1) = true
  | [], _, _, _ => rfl
  | e :: es, h, env, pos => by
    rw [nice_star (h e (List.mem_cons_self ..))]
    show (true && (backTo pos (starEach es env)).all (fun x => !x.1)) = true
    rw [stars_none (fun x q => h x (List.mem_cons_of_mem _ q))]
    rfl
theorem meth_form {o : Expr} {m : Str} {ap pos : Pos} {es : List Expr} {env : PySem.Env} (hb : baseOk o = true) (hn : nice o = true) (hs : ∀ e ∈ es, nice e = true) (hl : es.length < 30) (hp : (ap.endLine == pos.line) = true) :
    ∃ pl : Sem Bool, eval (.Call (.Attribute o m ap) es [] pos) env = (do
      let ov ← eval o env
      standAt ap.atName
      let q ← holding [ov] (getMethod ov m pl)
      callWith pos q.1 q.2 (backTo pos (starEach es env)) (backToKw pos (keywordEach [] env))) := by
  refine ⟨(do return (← importBound o env).getD true), ?_⟩
  have hf : methodCallForm (es.length + ([] : List Keyword).length) (backTo pos (starEach es env)) (backToKw pos (keywordEach [] env)) = true := by
    unfold methodCallForm
    rw [stars_none hs, show backToKw pos (keywordEach [] env) = [] from rfl]
    simpa using hl
  have hq : methodCallPos true o env ap pos = pure pos := by unfold methodCallPos; simp [hp]
  rw [arm_eval_Call, base_ok hb hn]
  unfold methodCall calleeOf
  rw [hf, hq]
  rfl

/-! ### what a def promises -/
/-- nothing is let out -/
abbrev CX1 : CXT := fun _ _ _ _ _ _ => False
structure FnP (P : Program) (w : World) (K : PySem.W.Frag) (mg : Str → Option Value) (base : Heap) (k : Nat) (f : Addr) (fd : FuncData) (ps : List Str) (sp : Sp) : Prop where
  len : ∀ vs H Q E, sp vs H Q E → vs.length = ps.length
  run : ∀ (A : Around) (outer : List PySem.Env) (s : Shared) (H : Hp) (args : Args) (us : List Value) (vs : List V) (Q : VK) (E : XK), Room k A → A.guards = some [] → Env0 P w K mg base A outer s H →
    BindsTo s fd args (ps.zip us) → Vals vs us → sp vs H Q E → codeAny (model P w) A (.call (.ref f) args) (CR CX1 outer P w H s Q E) s
section
variable {P : Program} {w : World} {K : PySem.W.Frag} {mg : Str → Option Value} {base : Heap} {k : Nat} {f : Addr} {fd : FuncData} {ps : List Str} {sp : Sp}
theorem FnP.mono {j : Nat} (F : FnP P w K mg base j f fd ps sp) (h : j ≤ k) : FnP P w K mg base k f fd ps sp :=
  ⟨F.len, fun A outer s H args us vs Q E hr hg => F.run A outer s H args us vs Q E (hr.mono h) hg⟩
/-- a def of the text, by its body -/
theorem fnP_of {name qual : Str} {params : Arguments} {body : List Stmt} {scope : Scope} {dV kV doc pm cdv ct oc : Value} {an od : Option Addr} {osl : Array (Option Value)} {N : List Str}
    (lk : K.lookup f = some ⟨oc, od, .func (PySem.W.fnOf name qual params body scope dV kV doc pm an cdv ct), osl⟩) (hcd : PySem.W.codeIn K cdv qual = true) (S : FnScope N ps scope) (len : ∀ vs H Q E, sp vs H Q E → vs.length = ps.length)
    (hbody : ∀ (A : Around) (outer : List PySem.Env) (s : Shared) (H : Hp) (vs : List V) (Q : VK) (E : XK), Room k (A.deeper (envOfC qual scope s.heap.objs.size f cdv)) → (A.deeper (envOfC qual scope s.heap.objs.size f cdv)).guards = some [] → sp vs H Q E →
      ∃ t, PSs (cxOf CX1 P w K mg base N qual scope f cdv A outer s H E) body t ∧ t { nx := fun _ H' => Q .non H', rt := Q } (start N vs) H) :
    FnP P w K mg base (k + 1) f (PySem.W.fnOf name qual params body scope dV kV doc pm an cdv ct) ps sp := by
  refine ⟨len, ?_⟩
  intro A outer s H args us vs Q E hr hg e0 hb rv hsp
  have inK : K.In s.heap := PySem.W.Frag.In.keeps e0.mod.kin fun b o e => (e0.bs b o e).1
  have noLim : s.heap.NoLimit := Heap.NoLimit.keeps e0.mod.nolimit fun b o e => (e0.bs b o e).1
  have kinds : ∀ y ∈ ps.zip us, scope.names.lookup y.1 = some .local ∨ (scope.names.lookup y.1 = some .cell ∧ ((cellsFrom (s.heap.objs.size + 1) scope.names []).lookup y.1).isSome = true) := by
    rintro ⟨n, v⟩ hy
    exact (S.par n (List.of_mem_zip hy).1).imp id fun q => ⟨q, PySem.W.cellsFrom_some _ _ _ (.inl q)⟩
  refine codeAny_call_function hr.depth (inK _ _ lk) rfl S.co S.gen rfl (PySem.W.codeRec_of inK hcd) (hb _ _ _ _ (wpAny_newFunctionEnv_cells S.kind kinds ?_))
  rintro env rfl s1 x
  refine ⟨noLim.keeps x.toInCall.keep, codeAny_func ?_⟩
  obtain ⟨t, ht, hq⟩ := hbody A outer s H vs Q E (hr.deeper _) hg hsp
  have I := inv_start (f := f) (cd := cdv) (qual := qual) (CX := CX1) (E := E) S hr.hd e0 (len _ _ _ _ hsp) rv x
  refine wpAny_mono (ht.run [] s1 (start N vs) H _ I hq) (fun fl s' hs => ?_) (fun e s' hs => hs)
  have fin : ∀ {σ' : L2.St} {H' : Hp} {v : V} {u : Value}, Inv (cxOf CX1 P w K mg base N qual scope f cdv A outer s H E) [] σ' H' s' → RelV v u → Q v H' → CE outer P w H s Q u s' := by
    intro σ' H' v u J rv q
    exact ⟨v, H', J.os, J.bare, J.base, J.hok, rv, q⟩
  cases fl with
  | next =>
    obtain ⟨σ', H', J, q⟩ := hs
    exact fin (v := V.non) (u := Value.none) J rfl q
  | ret u =>
    obtain ⟨v, σ', H', J, rw', q⟩ := hs
    exact fin J rw' q
  | brk => exact hs.elim fun _ z => z.elim fun _ z => z.2.elim
  | cont => exact hs.elim fun _ z => z.elim fun _ z => z.2.elim
end
section
variable {X : Cx} {k : Nat} {f C : Addr} {fd : FuncData} {ps : List Str} {sp : Sp} {dvs : List V} {ds : List Value} {E : XK} {x m : Str} {p pos apos : Pos} {o : Expr} {es : List Expr} {ta : TE} {t : TA}
theorem run_P {pins : List (Addr × Obj)} {σ : L2.St} {H : Hp} {s : Shared} {Q : VK} {us : List Value} {vs : List V} (F : FnP X.prog X.w X.K X.mg X.base k f fd ps sp) (hr : Room k X.A) (hg : X.A.guards = some []) (hb : Binds X.K fd ps ds) (hd : Vals dvs ds)
    (I : Inv X pins σ H s) (r : Vals vs us) (h : sp (vs ++ dvs) H Q E) : wpAny (model X.prog X.w) X.A (call (.ref f) us) (EP X pins σ Q) X.xe s := by
  have r2 := r.append hd
  refine wpAny_call (codeAny_mono (F.run X.A X.stack s H ⟨us, []⟩ (us ++ ds) (vs ++ dvs) Q E hr hg I.env0 (hb s us I.kIn (r2.length.symm.trans (F.len _ _ _ _ h))) r2 h) ?_)
  intro r s' hq
  cases r with
  | error e => exact hq.elim
  | ok fl => cases fl <;> first | exact I.after hq | exact hq.elim
/-- f(..) -/
theorem pe_callP (F : FnP X.prog X.w X.K X.mg X.base k f fd ps sp) (hr : Room k X.A) (hg : X.A.guards = some []) (gl : Gl X x) (hm : X.mg x = some (.ref f)) (hk : PySem.W.keepIn X.K (.ref f) = true) (hb : Binds X.K fd ps ds) (hd : Vals dvs ds)
    (ha : PA X es t) (h0 : es = [] → ∀ σ H Q, t σ H Q → Q [] H) (hs : ∀ e ∈ es, nice e = true) (hdb : (x == ("__debug__" : Str)) = false) : PE X (.Call (.Name x p) es [] pos) (tCall sp dvs E t) := by
  refine ⟨fun pins s σ H Q I h => wpAny_Call_Name_kw (ld_glob I gl hm ?_ hdb)⟩
  cases es with
  | nil =>
    exact PySem.W.callWith_K0 I.kIn hk (run_P (us := []) F hr hg hb hd I .nil (h0 rfl _ _ _ h))
  | cons e es =>
    exact PySem.W.callWith_K (h₀ := X.base) I.ok.mod.kin hk (thn (ha.run pos pins s σ H _ I h) fun us s1 ⟨vs, H1, I1, r, q⟩ => ⟨I1.kIn, run_P F hr hg hb hd I1 r q⟩) (nice_star (hs e (List.mem_cons_self ..)) es _) (stars_nice (fun x q => hs x (List.mem_cons_of_mem _ q)) _ _)
end
end Pk
end
section
set_option Elab.async false
set_option linter.all false
set_option maxRecDepth 100000
/-! Calls of own defs, methods, classes. -/
namespace Pk
open PySem L2 PyProof.Rows

/-! ### constants among the arguments -/
def constV : D → Option V
  | .non => some .non
  | .bl b => some (.bl b)
  | .int i => some (.int i)
  | .str s => some (.str s)
  | _ => none
theorem constV_rep {W : Wd} {Z : Addr → Prop} {H : Hp} {d : D} {v : V} (h : constV d = some v) : RepD W Z H v d := by
  cases d <;> cases h
  · exact .non
  · exact .bl _
  · exact .int _
  · exact .str _
abbrev CstL (ds : List D) (vs : List V) : Prop := Paired (fun v d => constV d = some v) vs ds
theorem tempOf_v {v : V} {x : Val} : tempOf v (.v x) = none := by cases v <;> rfl
theorem temps_cst : ∀ {vs : List V} {ds : List D}, CstL ds vs → temps vs (ds.map dv) = []
  | _, _, .nil => rfl
  | v :: vs, d :: ds, .cons _ t => by
    show temps (v :: vs) (dv d :: ds.map dv) = []
    unfold temps
    rw [show tempOf v (dv d) = none from tempOf_v]
    exact temps_cst t
theorem temps_cons {v : V} {vs : List V} {a : RV} {as : List RV} : temps (v :: vs) (a :: as) = match tempOf v a with
    | some p => p :: temps vs as
    | none => temps vs as := by
  rw [temps] <;> cases tempOf v a <;> rfl
theorem temps_app : ∀ {vs us : List V} {as bs : List RV}, vs.length = as.length → temps (vs ++ us) (as ++ bs) = temps vs as ++ temps us bs
  | [], us, [], bs, _ => rfl
  | v :: vs, us, a :: as, bs, h => by
    rw [List.cons_append, List.cons_append, temps_cons, temps_cons, temps_app (us := us) (bs := bs) (show vs.length = as.length by simpa using h)]
    cases tempOf v a <;> rfl
  | [], _, _ :: _, _, h => by simp at h
  | _ :: _, _, [], _, h => by simp at h
theorem paired_length {α β : Type} {R : α → β → Prop} : ∀ {xs : List α} {ys : List β}, Paired R xs ys → xs.length = ys.length
  | _, _, .nil => rfl
  | _, _, .cons _ t => by rw [List.length_cons, List.length_cons, paired_length t]
theorem paired_app {α β : Type} {R : α → β → Prop} : ∀ {xs us : List α} {ys vs : List β}, Paired R xs ys → Paired R us vs → Paired R (xs ++ us) (ys ++ vs)
  | _, _, _, _, .nil, h => h
  | _, _, _, _, .cons r t, h => .cons r (paired_app t h)
section
variable {W : Wd} {L0 L L' : Lo} {S : Pk.St}
theorem paired_cst : ∀ {vs : List V} {ds : List D}, CstL ds vs → Paired (fun v a => RepR W L0 L v a) vs (ds.map dv)
  | _, _, .nil => .nil
  | _, _, .cons r t => .cons (show RepD W L.Z L.H _ _ from constV_rep r) (paired_cst t)
theorem RepRs.app {vs dvs : List V} {as : List RV} {ds : List D} (h : RepRs W L0 L vs as) (c : CstL ds dvs) : RepRs W L0 L (vs ++ dvs) (place ds as) := by
  have e : place ds as = as ++ ds.map dv := by
    cases c with
    | nil => rfl
    | @cons v d vs ds r t => cases d <;> first | rfl | cases r
  rw [e]
  refine ⟨paired_app h.all (paired_cst c), ?_⟩
  rw [temps_app (paired_length h.all), temps_cst c, List.append_nil]
  exact h.nd
end

/-! ### the promise -/
abbrev EF : XK := fun _ _ _ => False
abbrev WF : WX := fun _ _ _ _ => False
def SpOf (W : Wd) (m : List RV → M RV) : Sp := fun vs H Q _ => ∃ L0 S0 L S as, L.H = H ∧ Stp L0 L ∧ Ok W L S ∧ SS S0 S ∧ RepRs W L0 L vs as ∧ Out W EF L0 S0 (m as S) fun rv S' L' => ∀ v, RepR W L0 L' v rv → Q v L'.H
section
variable {X : Cx} {W : Wd} {σ : L2.St} {H : Hp} {Q : VK} {E : XK}
theorem RdE.callG {ma : Pk.Env → M (List RV)} {m : List RV → M RV} {pl : List RV → List RV} {plV : List V → List V} (hp : ∀ {L0 L : Lo} {vs : List V} {as : List RV}, RepRs W L0 L vs as → RepRs W L0 L (plV vs) (pl as)) (h : RdE W WF (fun ρ => bnd (ma ρ) fun as => m (pl as)) σ H Q) : RdA W WF ma σ H fun vs H2 => SpOf W m (plV vs) H2 Q E := by
  obtain ⟨L, ρ, S, rfl, hL, hE, h⟩ := h
  exact ⟨L, ρ, S, rfl, hL, hE, h.bnd0.imp fun as S1 L1 s1 o1 q1 h1 vs r1 => ⟨L, S, L1, S1, _, rfl, s1, o1, q1, hp r1, h1⟩⟩
theorem RdE.call {ma : Pk.Env → M (List RV)} {m : List RV → M RV} {ds : List D} {dvs : List V} (c : CstL ds dvs) (h : RdE W WF (fun ρ => bnd (ma ρ) fun as => m (place ds as)) σ H Q) : tCall (SpOf W m) dvs E (RdA W WF ma) σ H Q := RdE.callG (fun r => r.app c) h
theorem RdA.none {es : List ME} {tx : Tx} (h0 : es = []) {Qa : List V → Hp → Prop} (h : RdA W WF (evL tx es) σ H Qa) : Qa [] H := by
  subst h0
  obtain ⟨L, ρ, S, rfl, hL, hE, h⟩ := h
  unfold evL at h
  exact (Out.ret hL h) [] RepRs.nil
end

/-! ### methods -/
section
variable {X : Cx} {k : Nat} {m : Str} {p pos apos : Pos} {o : Expr} {es : List Expr} {ta : TE} {t : TA} {E : XK}
/-- what a class's method is: its promise, its lacking arguments -/
def MetP (X : Cx) (k : Nat) (m : Str) (C : Addr) (sp : Sp) (dvs : List V) : Prop :=
  Cls X.K C ∧ ∃ f fd ps ds, Meth X.K C m f ∧ FnP X.prog X.w X.K X.mg X.base k f fd ps sp ∧ Binds X.K fd ps ds ∧ Vals dvs ds
def tMethP (X : Cx) (k : Nat) (m : Str) (ta : TE) (t : TA) (E : XK) : TE := fun σ H Q => ta σ H fun x H1 => ∃ a C dx fs sp dvs, x = .ref a ∧ H1 a = some (.ins C dx fs) ∧ fs.lookup m = none ∧ MetP X k m C sp dvs ∧
  t σ H1 fun vs H2 => sp (x :: (vs ++ dvs)) H2 Q E
theorem pe_methP (he : PE X o ta) (hr : Room k X.A) (hg : X.A.guards = some []) (ha : PA X es t) (h0 : es = [] → ∀ σ H Q, t σ H Q → Q [] H) (hb : baseOk o = true) (hn : nice o = true) (hs : ∀ e ∈ es, nice e = true) (hl : es.length < 30)
    (hp : (apos.endLine == pos.line) = true) : PE X (.Call (.Attribute o m apos) es [] pos) (tMethP X k m ta t E) := by
  refine ⟨fun pins s σ H Q I h => ?_⟩
  obtain ⟨pl, hf⟩ := meth_form (m := m) (ap := apos) (pos := pos) (env := X.env) hb hn hs hl hp
  refine PySem.W.methodCall_KW (pl := pl) (thn (he.run pins s σ H _ I h) ?_) hf
  rintro u s1 ⟨x, H1, I1, rx, a, C, dx, fs, sp, dvs, ex, ea, l, ⟨c, f, fd, ps, ds, hm, F, bd, hd⟩, q⟩
  subst ex
  obtain rfl : u = Value.ref a := rx
  refine getmeth_ok I1 ea c hm l ?_
  cases es with
  | nil => exact PySem.W.callWith_K0 (first := [.ref a]) I1.kIn hm.kp (run_P (us := [.ref a]) (vs := [.ref a]) F hr hg bd hd I1 (.cons rfl .nil) (h0 rfl _ _ _ q))
  | cons e es =>
    refine PySem.W.callWith_K (first := [.ref a]) (h₀ := X.base) I.ok.mod.kin hm.kp (thn (ha.run pos pins s1 σ H1 _ I1 q) fun us s2 q2 => ?_) (nice_star (hs e (List.mem_cons_self ..)) es _) (stars_nice (fun x q => hs x (List.mem_cons_of_mem _ q)) _ _)
    obtain ⟨vs, H2, I2, r, q2⟩ := q2
    exact ⟨I2.kIn, run_P (us := .ref a :: us) (vs := .ref a :: vs) F hr hg bd hd I2 (.cons rfl r) q2⟩
end
section
variable {X : Cx} {W : Wd} {σ : L2.St} {H : Hp} {Q : VK} {E : XK} {L0 L : Lo} {S : Pk.St}
/-- an instance, by its class -/
theorem RepR.cls (hL : Ok W L S) {v : V} {a : RV} {c : Nat} (r : RepR W L0 L v a) (e : clsOf S a = some c) : ∃ p C dx gs, v = .ref p ∧ W.cls c = some C ∧ L.H p = some (.ins C dx gs) ∧ ∀ f, (∀ i, W.att i ≠ some f) → gs.lookup f = none := by
  have lkF : ∀ {gs : List (Str × V)} {fs : List (Nat × D)} {f : Str}, RepF W L.Z L.H gs fs → (∀ i, W.att i ≠ some f) → gs.lookup f = none := by
    intro gs
    induction gs with
    | nil => intros; rfl
    | cons g gs ih =>
      intro fs f r n
      cases r with
      | cons h0 h1 h2 =>
        rw [List.lookup_cons]
        rename_i f' v' i d fs
        have : (f == f') = false := by
          cases hb : f == f' with
          | false => rfl
          | true => exact absurd (by rw [h0, eq_of_beq hb]) (n i)
        rw [this]
        exact ih h2 n
  have lkV : ∀ {gs : List (Str × V)} {fs : List (Nat × Val)} {f : Str}, RepFV W L gs fs → (∀ i, W.att i ≠ some f) → gs.lookup f = none := by
    intro gs
    induction gs with
    | nil => intros; rfl
    | cons g gs ih =>
      intro fs f r n
      cases r with
      | cons h0 h1 h2 =>
        rw [List.lookup_cons]
        rename_i f' v' i d fs
        have : (f == f') = false := by
          cases hb : f == f' with
          | false => rfl
          | true => exact absurd (by rw [h0, eq_of_beq hb]) (n i)
        rw [this]
        exact ih h2 n
  cases a with
  | v x =>
    cases x with
    | d d =>
      cases d <;> cases e
      cases (show RepD W L.Z L.H v _ from r) with
      | ins h0 hc h1 h2 => exact ⟨_, _, _, _, rfl, hc, h1, fun f n => lkF h2 n⟩
    | r i =>
      obtain ⟨p, em, ev⟩ := r
      obtain ⟨o, eo, ro⟩ := hL.cell em
      have e : (match S.cells[i]? with | some (.ins c _) => some c | _ => none) = some c := e
      rw [eo] at e
      cases o with
      | ins c' fs =>
        cases e
        obtain ⟨C, dx, gs, hc, h1, h2⟩ := ro
        exact ⟨p, C, dx, gs, ev, hc, h1, fun f n => lkV h2 n⟩
      | lst _ => cases e
      | dic _ => cases e
  | tmp o =>
    obtain ⟨p, ev, _, _, _, ro⟩ := r
    cases o with
    | ins c' fs =>
      cases e
      obtain ⟨C, dx, gs, hc, h1, h2⟩ := ro
      exact ⟨p, C, dx, gs, ev, hc, h1, fun f n => lkV h2 n⟩
    | lst _ => cases e
    | dic _ => cases e
/-- o.m(..) -/
theorem RdE.meth {k : Nat} {m : Str} {mo : Pk.Env → M RV} {ma : Pk.Env → M (List RV)} {tx : Tx} {ds : List D} (hn : ∀ i, W.att i ≠ some m)
    (hF : ∀ c C, W.cls c = some C → tx.has (.me c m) = true → ∃ dvs, CstL ds dvs ∧ MetP X k m C (SpOf W (tx.call (.me c m))) dvs)
    (h : RdE W WF (fun ρ => bnd (mo ρ) fun x => fun S => match clsOf S x with
      | some c => if tx.has (.me c m) = true then bnd (ma ρ) (fun as => tx.call (.me c m) (x :: place ds as)) S else .err
      | none => .err) σ H Q) : tMethP X k m (RdE W WF mo) (RdA W WF ma) E σ H Q := by
  obtain ⟨L, ρ, S, rfl, hL, hE, h⟩ := h
  refine ⟨L, ρ, S, rfl, hL, hE, h.bnd0.imp fun x S1 L1 s1 o1 q1 h1 v r1 => ?_⟩
  cases ec : clsOf S1 x with
  | none =>
    rw [ec] at h1
    exact h1.elim
  | some c =>
    rw [ec] at h1
    obtain ⟨p, C, dx, gs, ev, hc, hp, hl⟩ := r1.cls o1 ec
    have h1 : Out W EF L S (if tx.has (.me c m) = true then bnd (ma ρ) (fun as => tx.call (.me c m) (x :: place ds as)) S1 else .err) fun rv S' L' => ∀ v, RepR W L L' v rv → Q v L'.H := h1
    split at h1
    · rename_i hh
      obtain ⟨dvs, cd, hM⟩ := hF c C hc hh
      refine ⟨p, C, dx, gs, _, dvs, ev, hp, hl m hn, hM, L1, ρ, S1, rfl, o1, hE.step s1, ?_⟩
      refine (Out.later s1 q1 h1.bnd1).imp fun as S2 L2 s2 o2 q2 h4 vs r2 => ?_
      refine ⟨L, S, L2, S2, x :: place ds as, rfl, s1.trans s2, o2, q1.trans q2, ?_, h4⟩
      exact RepRs.cons s1 s2 r1 (r2.app cd)
    · exact h1.elim
end

/-! ### cells let go -/
def Lo.cut (L : Lo) (n : Nat) (R : Addr → Prop) : Lo := ⟨fun a => L.Z a ∧ ¬ R a, L.m.take n, L.H⟩
section
variable {W : Wd} {L0 L : Lo} {S S' : Pk.St} {n : Nat} {R : Addr → Prop}
theorem RepFV.refs : ∀ {fs : List (Nat × Val)} {gs : List (Str × V)}, RepFV W L gs fs → ∀ p ∈ fs, ∀ j, p.2 = .r j → j < L.m.length
  | [], _, _, p, hp, _, _ => by cases hp
  | (i, x) :: fs, _, h, p, hp, j, e => by
    cases h with
    | cons h0 h1 h2 =>
      rcases List.mem_cons.mp hp with q | q
      · subst q
        cases e
        obtain ⟨a, em, _⟩ := h1
        exact (List.getElem?_eq_some_iff.mp em).1
      · exact RepFV.refs h2 p q j e
theorem RepO.refs {a : Addr} {o : MObj} (h : RepO W L a o) : RefsLt L.m.length o := by
  cases o with
  | lst _ => exact trivial
  | dic _ => exact trivial
  | ins c fs =>
    obtain ⟨C, dx, gs, hc, e, r⟩ := h
    exact r.refs
theorem RepFV.cut : ∀ {fs : List (Nat × Val)} {gs : List (Str × V)}, RepFV W L gs fs → (∀ p ∈ fs, ∀ j, p.2 = .r j → j < n) → RepFV W (L.cut n R) gs fs
  | [], _, h, _ => by cases h; exact .nil
  | (i, x) :: fs, _, h, hn => by
    cases h with
    | cons h0 h1 h2 =>
      refine .cons h0 ?_ (RepFV.cut h2 fun p hp => hn p (List.mem_cons_of_mem _ hp))
      cases x with
      | d x => exact RepD.mono (Keeps.less fun _ z => z.1) h1
      | r j =>
        obtain ⟨a, em, e⟩ := h1
        exact ⟨a, by show (L.m.take n)[j]? = some a; rw [List.getElem?_take_of_lt (hn (i, .r j) (List.mem_cons_self ..) j rfl)]; exact em, e⟩
theorem RepO.cut {a : Addr} {o : MObj} (h : RepO W L a o) (hn : RefsLt n o) : RepO W (L.cut n R) a o := by
  cases o with
  | lst ds =>
    obtain ⟨vs, e, r⟩ := h
    exact ⟨vs, e, r.mono (Keeps.less fun _ z => z.1)⟩
  | dic kvs =>
    obtain ⟨vs, e, r⟩ := h
    exact ⟨vs, e, r.mono (Keeps.less fun _ z => z.1)⟩
  | ins c fs =>
    obtain ⟨C, dx, gs, hc, e, r⟩ := h
    exact ⟨C, dx, gs, hc, e, r.cut hn⟩
theorem mem_take {α : Type} {xs : List α} {n : Nat} {a : α} (h : a ∈ xs.take n) : a ∈ xs := List.mem_of_mem_take h
theorem Ok.cut (o : Ok W L S) {e : List Nat} (hr : ∀ k ob, k < n → S.cells[k]? = some ob → RefsLt n ob) (hm : ∀ a ∈ L.m.take n, ¬ R a) : Ok W (L.cut n R) ⟨S.cells.take n, e⟩ := by
  refine ⟨fun a z => o.zH a z.1, fun a h => ⟨o.mz a (mem_take h), hm a h⟩, o.nd.sublist (List.take_sublist _ _), ?_, fun i a ob e1 e2 => ?_⟩
  · show (L.m.take n).length = (S.cells.take n).length
    rw [List.length_take, List.length_take, o.len]
  · have e1 : (L.m.take n)[i]? = some a := e1
    have e2 : (S.cells.take n)[i]? = some ob := e2
    have hi : i < n := by
      have := (List.getElem?_eq_some_iff.mp e1).1
      rw [List.length_take] at this
      omega
    rw [List.getElem?_take_of_lt hi] at e1 e2
    exact (o.cel i a ob e1 e2).cut (hr i ob hi e2)
theorem Stp.cut (s : Stp L0 L) (h0 : L0.m.length ≤ n) (hz : ∀ a, L0.Z a → ¬ R a) (hm : ∀ a ∈ L.m.take n, ¬ R a) : Stp L0 (L.cut n R) := by
  refine ⟨fun a z => ⟨s.zz a z, hz a z⟩, fun a z q => s.nw a z.1 q, ?_, fun a z q => s.mr a (mem_take z) q, s.mz, fun a z => ⟨s.mz' a (mem_take z), hm a z⟩, s.kp, s.tp⟩
  obtain ⟨r, e⟩ := s.mm
  refine ⟨r.take (n - L0.m.length), ?_⟩
  show L.m.take n = _
  rw [e, List.take_append, List.take_of_length_le h0]
theorem SS.cut (q : SS S S') (h : S.cells.length ≤ n) : SS S ⟨S'.cells.take n, S'.esc⟩ := by
  obtain ⟨l, e, he, hk⟩ := q
  refine ⟨by show _ ≤ (S'.cells.take n).length; rw [List.length_take]; omega, e, he, fun n' k hn hkn hne hr o eo => ?_⟩
  have eo : (S'.cells.take n)[k]? = some o := eo
  have hi : k < n := by
    have := (List.getElem?_eq_some_iff.mp eo).1
    rw [List.length_take] at this
    omega
  rw [List.getElem?_take_of_lt hi] at eo
  exact hk n' k hn hkn hne hr o eo
/-- one cell more -/
theorem SS.push (S : Pk.St) (o : MObj) : SS S { S with cells := S.cells ++ [o] } := by
  refine ⟨by show _ ≤ (S.cells ++ [o]).length; rw [List.length_append]; omega, [], rfl, fun n k hn hk _ hr ob e => ?_⟩
  have e : (S.cells ++ [o])[k]? = some ob := e
  rw [List.getElem?_append_left (by omega)] at e
  exact hr ob e
end
end Pk
end
section
set_option Elab.async false
set_option linter.all false
set_option maxRecDepth 100000
/-! Objects made by their classes. -/
namespace Pk
open PySem L2 PyProof.Rows

section
variable {X : Cx} {k : Nat} {x : Str} {p pos : Pos} {es : List Expr} {t : TA} {E : XK} {C : Addr} {sp : Sp} {dvs : List V}
def MakP (X : Cx) (k : Nat) (C : Addr) (sp : Sp) (dvs : List V) : Prop := ∃ f fd ps ds, Mk X.K C f ∧ FnP X.prog X.w X.K X.mg X.base k f fd ps sp ∧ Binds X.K fd ps ds ∧ Vals dvs ds
theorem guards_make {A : Around} (hg : A.guards = some []) (C : Addr) (us : List Value) : (A.under (.builtin "type.__call__" ⟨.ref C :: us, []⟩)).guards = some [] := by
  show pushGuards (Code.builtin "type.__call__" ⟨.ref C :: us, []⟩).guards A.guards = some []
  rw [show (Code.builtin "type.__call__" ⟨.ref C :: us, []⟩).guards = [] from by unfold Code.guards; rw [show (Code.builtin "type.__call__" ⟨.ref C :: us, []⟩).isGuard = false from by show guardIds.contains "type.__call__" = false; decide +kernel]; rfl]
  exact hg
theorem guards_makeW {A : Around} (hg : A.guards = some []) (C : Addr) (us : List Value) (kw : List (Str × Value)) : (A.under (.builtin "type.__call__" ⟨.ref C :: us, kw⟩)).guards = some [] := by
  show pushGuards (Code.builtin "type.__call__" ⟨.ref C :: us, kw⟩).guards A.guards = some []
  rw [show (Code.builtin "type.__call__" ⟨.ref C :: us, kw⟩).guards = [] from by unfold Code.guards; rw [show (Code.builtin "type.__call__" ⟨.ref C :: us, kw⟩).isGuard = false from by show guardIds.contains "type.__call__" = false; decide +kernel]; rfl]
  exact hg
theorem run_makeP {pins : List (Addr × Obj)} {σ : L2.St} {H : Hp} {s : Shared} {Q : VK} {us : List Value} {vs : List V} (M : MakP X k C sp dvs) (hr : Room (k + 1) X.A) (hg : X.A.guards = some []) (I : Inv X pins σ H s) (r : Vals vs us)
    (h : ∀ x dx, H x = none → H dx = none → dx ≠ x → sp (.ref x :: (vs ++ dvs)) (L2.upd (L2.upd H dx (.own x)) x (.ins C dx [])) (fun v H2 => v = .non ∧ Q (.ref x) H2) E) :
    wpAny (model X.prog X.w) X.A (call (.ref C) us) (EP X pins σ Q) X.xe s := by
  obtain ⟨f, fd, ps, ds, M, F, hb, hd⟩ := M
  have hq := h (s.heap.objs.size + 1) s.heap.objs.size (I.hok.fresh (Nat.le_succ _)) (I.hok.fresh (Nat.le_refl _)) (Nat.ne_of_lt (Nat.lt_succ_self _))
  have J := Inv.made (C := C) I
  have rr : Vals (V.ref (s.heap.objs.size + 1) :: (vs ++ dvs)) ((Value.ref (s.heap.objs.size + 1) :: us) ++ ds) := .cons rfl (r.append hd)
  have hl : ((Value.ref (s.heap.objs.size + 1) :: us) ++ ds).length = ps.length := rr.length.symm.trans (F.len _ _ _ _ hq)
  refine wpAny_call (make_map (f := f) I.kIn M.makes M.init (beq_iff_eq.mp M.fn) (codeAny_mono (F.run _ X.stack _ _ ⟨Value.ref (s.heap.objs.size + 1) :: us, []⟩ _ _ _ E (hr.make C us []) (guards_make hg C us) (J.env0.make C us []) (hb _ _ J.kIn hl) rr hq) ?_))
  intro r s' hq'
  cases r with
  | error e => exact hq'.elim
  | ok fl =>
    cases fl with
    | ret u =>
      obtain ⟨v, H', I3, rv, ev, q3⟩ := J.after hq'
      subst ev
      exact ⟨rv, ⟨V.ref (s.heap.objs.size + 1), H', I3, rfl, q3⟩⟩
    | next => exact hq'.elim
    | brk => exact hq'.elim
    | cont => exact hq'.elim
theorem pe_makeP (M : MakP X k C sp dvs) (hr : Room (k + 1) X.A) (hg : X.A.guards = some []) (gl : Gl X x) (hm : X.mg x = some (.ref C)) (hk : PySem.W.keepIn X.K (.ref C) = true) (ha : PA X es t) (h0 : es = [] → ∀ σ H Q, t σ H Q → Q [] H)
    (hs : ∀ e ∈ es, nice e = true) (hdb : (x == ("__debug__" : Str)) = false) : PE X (.Call (.Name x p) es [] pos) (tMake C sp dvs E t) := by
  refine ⟨fun pins s σ H Q I h => wpAny_Call_Name_kw (ld_glob I gl hm ?_ hdb)⟩
  cases es with
  | nil => exact PySem.W.callWith_K0 I.kIn hk (run_makeP (us := []) M hr hg I .nil (h0 rfl _ _ _ h))
  | cons e es =>
    exact PySem.W.callWith_K (h₀ := X.base) I.ok.mod.kin hk (thn (ha.run pos pins s σ H _ I h) fun us s1 ⟨vs, H1, I1, r, q⟩ => ⟨I1.kIn, run_makeP M hr hg I1 r q⟩) (nice_star (hs e (List.mem_cons_self ..)) es _) (stars_nice (fun x q => hs x (List.mem_cons_of_mem _ q)) _ _)
end
section
variable {X : Cx} {W : Wd} {σ : L2.St} {H : Hp} {Q : VK} {E : XK} {L0 L : Lo} {S : Pk.St}
theorem paired_mem {R : V → RV → Prop} : ∀ {vs : List V} {as : List RV}, Paired R vs as → Paired (fun v a => R v a ∧ ∀ p, tempOf v a = some p → p ∈ temps vs as) vs as
  | _, _, .nil => .nil
  | v :: vs, a :: as, .cons r t => by
    refine .cons ⟨r, fun p e => ?_⟩ (Paired.mapP (paired_mem t) fun v' a' h => ⟨h.1, fun p e => ?_⟩)
    · rw [temps_cons, e]
      exact List.mem_cons_self ..
    · rw [temps_cons]
      cases tempOf v a with
      | none => exact h.2 p e
      | some q => exact List.mem_cons_of_mem _ (h.2 p e)
theorem same_made {H : Hp} {x dx C : Addr} (nx : H x = none) (ndx : H dx = none) (ne : dx ≠ x) : Same H (L2.upd (L2.upd H dx (.own x)) x (.ins C dx [])) := fun b u e => by
  rw [upd_ne (ne_of_none e nx), upd_ne (ne_of_none e ndx)]
  exact e
/-- a place with one cell more -/
def Lo.plus (L : Lo) (x : Addr) (H : Hp) : Lo := ⟨fun a => L.Z a ∨ a = x, L.m ++ [x], H⟩
theorem Stp.plus {x : Addr} {H' : Hp} (o : Ok W L S) (s : Same L.H H') (nx : L.H x = none) : Stp L (L.plus x H') := by
  have nz : ¬ L.Z x := fun z => by
    obtain ⟨u, e, _⟩ := o.zH x z
    rw [nx] at e
    cases e
  refine ⟨fun _ z => .inl z, fun a z n => z.elim (fun q => (n q).elim) (fun q => by rw [q]; exact nx), ⟨[x], rfl⟩, fun a h n => ?_, o.mz, fun a h => ?_, fun a u _ e => s a u e, fun a u e _ => s a u e⟩
  · rcases List.mem_append.mp h with h | h
    · exact (n h).elim
    · rw [List.mem_singleton.mp h]
      exact nz
  · rcases List.mem_append.mp h with h | h
    · exact .inl (o.mz a h)
    · exact .inr (List.mem_singleton.mp h)
theorem Ok.plus {x : Addr} {H' : Hp} {ob : MObj} {u : HO} (o : Ok W L S) (s : Same L.H H') (nx : L.H x = none) (hx : H' x = some u) (hu : ¬ Still u) (hr : RepO W (L.plus x H') x ob) : Ok W (L.plus x H') { S with cells := S.cells ++ [ob] } := by
  have st := Stp.plus o s nx
  have nz : ¬ L.Z x := fun z => by
    obtain ⟨u, e, _⟩ := o.zH x z
    rw [nx] at e
    cases e
  refine ⟨fun a z => ?_, st.mz', ?_, ?_, fun i a ob' e1 e2 => ?_⟩
  · rcases z with z | z
    · obtain ⟨w, e, q⟩ := o.zH a z
      exact ⟨w, s a w e, q⟩
    · subst z
      exact ⟨u, hx, hu⟩
  · exact List.nodup_append.mpr ⟨o.nd, by simp, fun a h b hb e => by
      rw [List.mem_singleton.mp hb] at e
      subst e
      exact nz (o.mz _ h)⟩
  · show (L.m ++ [x]).length = (S.cells ++ [ob]).length
    rw [List.length_append, List.length_append, o.len]
    rfl
  · have e1 : (L.m ++ [x])[i]? = some a := e1
    have e2 : (S.cells ++ [ob])[i]? = some ob' := e2
    by_cases hi : i < L.m.length
    · rw [List.getElem?_append_left hi] at e1
      rw [List.getElem?_append_left (by rw [← o.len]; exact hi)] at e2
      have hm : a ∈ L.m := List.mem_of_getElem? e1
      have ro := o.cel i a ob' e1 e2
      cases ob' with
      | lst ds =>
        obtain ⟨vs, e, r⟩ := ro
        exact ⟨vs, s _ _ e, r.mono st.keeps⟩
      | dic kvs =>
        obtain ⟨vs, e, r⟩ := ro
        exact ⟨vs, s _ _ e, r.mono st.keeps⟩
      | ins c fs =>
        obtain ⟨C, dx, gs, hc, e, r⟩ := ro
        exact ⟨C, dx, gs, hc, s _ _ e, r.step st⟩
    · have hl := o.len
      rw [List.getElem?_append_right (by omega)] at e1 e2
      have hi0 : i - L.m.length = 0 := by
        have := (List.getElem?_eq_some_iff.mp e1).1
        simp at this
        omega
      rw [hi0] at e1
      rw [← hl, hi0] at e2
      cases e1
      cases e2
      exact hr
/-- C(..) -/
theorem RdE.mkG {ma : Pk.Env → M (List RV)} {tx : Tx} {c : Nat} {C : Addr} {pl : List RV → List RV} {plV : List V → List V} (hc : W.cls c = some C) (hp : ∀ {L0 L : Lo} {vs : List V} {as : List RV}, RepRs W L0 L vs as → RepRs W L0 L (plV vs) (pl as)) (h : RdE W WF (fun ρ => bnd (ma ρ) fun as => make tx c (pl as)) σ H Q) :
    RdA W WF ma σ H fun vs H1 => ∀ x dx, H1 x = none → H1 dx = none → dx ≠ x → SpOf W (tx.call (.init c)) (.ref x :: plV vs) (L2.upd (L2.upd H1 dx (.own x)) x (.ins C dx [])) (fun v H2 => v = .non ∧ Q (.ref x) H2) E := by
  obtain ⟨L, ρ, S, rfl, hL, hE, h⟩ := h
  refine ⟨L, ρ, S, rfl, hL, hE, h.bnd0.imp fun as S1 L1 s1 o1 q1 h1 vs r1 => ?_⟩
  intro x dx nx ndx ne
  have r2 := hp r1
  have sm := same_made (C := C) nx ndx ne
  generalize hT : temps (plV vs) (pl as) = T at *
  generalize hH : L2.upd (L2.upd L1.H dx (.own x)) x (.ins C dx []) = H' at *
  have hx : H' x = some (.ins C dx []) := by rw [← hH]; exact upd_same
  have st12 := Stp.plus o1 sm nx
  have o2 : Ok W (L1.plus x H') { S1 with cells := S1.cells ++ [.ins c []] } := o1.plus sm nx hx id ⟨C, dx, [], hc, hx, .nil⟩
  have nzx : ¬ L1.Z x := fun z => by
    obtain ⟨u, e, _⟩ := o1.zH x z
    rw [nx] at e
    cases e
  have inT : ∀ p ∈ T, L1.Z p ∧ ¬ L.Z p ∧ p ∉ L1.m := fun p hp => temps_in r2.all (by rw [hT]; exact hp)
  -- the place from which the new object stays
  have hLb : ∃ Lb : Lo, Lb = ⟨fun a => (L1.Z a ∧ a ∉ T) ∨ a = x, L1.m ++ [x], fun a => if a ∈ T then none else H' a⟩ := ⟨_, rfl⟩
  obtain ⟨Lb, hLb⟩ := hLb
  have kb : ∀ a u, Lb.H a = some u → a ∉ T ∧ H' a = some u := fun a u e => by
    subst hLb
    have e : (if a ∈ T then none else H' a) = some u := e
    split at e
    · cases e
    · rename_i h
      exact ⟨h, e⟩
  have kb' : ∀ a, a ∉ T → Lb.H a = H' a := fun a n => by
    subst hLb
    show (if a ∈ T then none else H' a) = H' a
    rw [if_neg n]
  have hbZ : ∀ a, Lb.Z a ↔ (L1.Z a ∧ a ∉ T) ∨ a = x := fun a => by subst hLb; exact Iff.rfl
  have hbm : Lb.m = L1.m ++ [x] := by subst hLb; rfl
  have bmz : ∀ a ∈ L1.m ++ [x], Lb.Z a := fun a h => by
    rw [hbZ]
    rcases List.mem_append.mp h with h | h
    · exact .inl ⟨o1.mz a h, fun q => (inT a q).2.2 h⟩
    · exact .inr (List.mem_singleton.mp h)
  have stb2 : Stp Lb (L1.plus x H') := by
    refine ⟨fun a z => ?_, fun a z n => ?_, ⟨[], by rw [hbm, List.append_nil]; rfl⟩, fun a h n => (n (by rw [hbm]; exact h)).elim, fun a h => bmz a (by rw [← hbm]; exact h), st12.mz', fun a u _ e => (kb a u e).2, fun a u e _ => (kb a u e).2⟩
    · rcases (hbZ a).mp z with z | z
      · exact .inl z.1
      · exact .inr z
    · rcases z with z | z
      · have ha : a ∈ T := Classical.byContradiction fun q => n ((hbZ a).mpr (.inl ⟨z, q⟩))
        cases e : Lb.H a with
        | none => rfl
        | some u => exact ((kb a u e).1 ha).elim
      · exact (n ((hbZ a).mpr (.inr z))).elim
  have stLb : Stp L Lb := by
    refine ⟨fun a z => (hbZ a).mpr (.inl ⟨s1.zz a z, fun q => (inT a q).2.1 z⟩), fun a z n => ?_, ?_, fun a h n => ?_, s1.mz, fun a h => bmz a (by rw [← hbm]; exact h), fun a u n e => ?_, fun a u e q => ?_⟩
    · rcases (hbZ a).mp z with z | z
      · exact s1.nw a z.1 n
      · subst z
        cases e : L.H a with
        | none => rfl
        | some u =>
          have := s1.kp a u (fun q => n (s1.mz a q)) e
          rw [nx] at this
          cases this
    · obtain ⟨r, e⟩ := s1.mm
      exact ⟨r ++ [x], by rw [hbm, e, List.append_assoc]⟩
    · rw [hbm] at h
      rcases List.mem_append.mp h with h | h
      · exact s1.mr a h n
      · rw [List.mem_singleton.mp h]
        exact fun z => nzx (s1.zz x z)
    · have h1 := s1.kp a u n e
      rw [kb' a fun q => by rw [s1.nw a (inT a q).1 (inT a q).2.1] at e; cases e]
      exact sm a u h1
    · have h1 := s1.tp a u e q
      rw [kb' a fun z => by rw [s1.nw a (inT a z).1 (inT a z).2.1] at e; cases e]
      exact sm a u h1
  have rep : RepRs W Lb (L1.plus x H') (.ref x :: plV vs) (.v (.r S1.cells.length) :: pl as) := by
    refine ⟨.cons ⟨x, ?_, rfl⟩ (Paired.mapP (paired_mem r2.all) fun v a h => ?_), ?_⟩
    · show (L1.m ++ [x])[S1.cells.length]? = some x
      rw [← o1.len]
      simp
    · obtain ⟨r, hm⟩ := h
      cases a with
      | v y => exact RepV.step st12 r
      | tmp ob =>
        obtain ⟨p, e, z, z0, n, ro⟩ := r
        subst e
        have hp : p ∈ T := by rw [← hT]; exact hm p rfl
        refine ⟨p, rfl, .inl z, fun q => ?_, fun q => ?_, ro.step st12 n⟩
        · rcases (hbZ p).mp q with q | q
          · exact q.2 hp
          · subst q
            exact nzx z
        · rcases List.mem_append.mp q with q | q
          · exact n q
          · rw [List.mem_singleton.mp q] at z
            exact nzx z
    · rw [temps_cons, tempOf_v]
      exact r2.nd
  refine ⟨Lb, { S1 with cells := S1.cells ++ [.ins c []] }, L1.plus x H', _, _, rfl, stb2, o2, SS.refl _, rep, ?_⟩
  have h1 : Out W EF L S (make tx c (pl as) S1) fun rv S' L' => ∀ v, RepR W L L' v rv → Q v L'.H := h1
  unfold make at h1
  have qp : SS S1 { S1 with cells := S1.cells ++ [.ins c []] } := SS.push S1 _
  cases er : tx.call (.init c) (.v (.r S1.cells.length) :: pl as) { S1 with cells := S1.cells ++ [.ins c []] } with
  | err => rw [er] at h1; exact h1
  | exc e S' => rw [er] at h1; exact h1.elim
  | ok rv S' =>
    rw [er] at h1
    intro L' sb ok' q' v rv'
    have hgx : L'.m[S1.cells.length]? = some x := sb.get (by rw [hbm, ← o1.len]; simp)
    have hlenx : S1.cells.length < L'.m.length := (List.getElem?_eq_some_iff.mp hgx).1
    split at h1
    · rename_i S2 e0
      cases e0
      have ev : v = .non := by cases (show RepD W L'.Z L'.H v .non from rv'); rfl
      refine ⟨ev, ?_⟩
      split at h1
      · exact h1 L' (stLb.trans sb) ok' (q1.trans (qp.trans q')) (.ref x) ⟨x, hgx, rfl⟩
      · split at h1
        · rename_i c' fs ec ed
          split at h1
          · rename_i fs' ef
            split at h1
            · rename_i hesc
              obtain ⟨r, em⟩ := sb.mm
              have ht : L'.m.take S1.cells.length = L1.m := by
                rw [em, hbm, ← o1.len, List.append_assoc, List.take_left]
              have hn : ∀ k ob, k < S1.cells.length → S'.cells[k]? = some ob → RefsLt S1.cells.length ob := by
                intro k ob hk eo
                obtain ⟨l, e, he, hh⟩ := q'
                have e0 : e = [] := by
                  have h2 : S'.esc.length = e.length + S1.esc.length := by rw [he, List.length_append]
                  exact List.eq_nil_of_length_eq_zero (by omega)
                refine hh S1.cells.length k (by show _ ≤ (S1.cells ++ [MObj.ins c []]).length; rw [List.length_append]; omega) hk (by rw [e0]; exact List.not_mem_nil) (fun o eo => ?_) ob eo
                have eo : (S1.cells ++ [MObj.ins c []])[k]? = some o := eo
                rw [List.getElem?_append_left hk] at eo
                have hk2 : k < L1.m.length := by rw [o1.len]; exact hk
                have := (o1.cel k _ o (List.getElem?_eq_getElem hk2) eo).refs
                rwa [o1.len] at this
              have hRm : ∀ a ∈ L'.m.take S1.cells.length, ¬ a = x := fun a ha e => by
                rw [ht] at ha
                subst e
                exact nzx (o1.mz _ ha)
              have o3 : Ok W (L'.cut S1.cells.length (· = x)) ⟨S'.cells.take S1.cells.length, S'.esc⟩ := ok'.cut hn hRm
              have s3 : Stp L (L'.cut S1.cells.length (· = x)) := (stLb.trans sb).cut (by have := q1.le; rw [hL.len]; exact this) (fun a z e => by subst e; exact nzx (s1.zz _ z)) hRm
              refine h1 _ s3 o3 ((q1.trans (qp.trans q')).cut q1.le) (.ref x) ?_
              obtain ⟨C', dx', gs, hc', e1, r1'⟩ := ok'.cel _ x _ hgx ec
              exact .ins (fun z => z.2 rfl) hc' e1 ((r1'.f ef).mono (Keeps.less fun _ z => z.1))
            · exact h1.elim
          · exact h1.elim
        · exact h1.elim
    · exact h1.elim
theorem RdE.mk {ma : Pk.Env → M (List RV)} {tx : Tx} {c : Nat} {C : Addr} {ds : List D} {dvs : List V} (hc : W.cls c = some C) (cd : CstL ds dvs) (h : RdE W WF (fun ρ => bnd (ma ρ) fun as => make tx c (place ds as)) σ H Q) :
    tMake C (SpOf W (tx.call (.init c))) dvs E (RdA W WF ma) σ H Q := RdE.mkG hc (fun r => r.app cd) h
end
end Pk
end
section
set_option Elab.async false
set_option linter.all false
set_option maxRecDepth 100000
/-! A def called: its parameters bound, its body run, its cells let go. -/
namespace Pk
open PySem L2 PyProof.Rows

section
variable {W : Wd} {L0 L L' L1 : Lo} {S S' S0 S1 : Pk.St}
/-! ### parameters -/
def Lo.cell (L : Lo) (a : Addr) : Lo := ⟨L.Z, L.m ++ [a], L.H⟩
def Lo.less (L : Lo) (a : Addr) : Lo := ⟨fun b => L.Z b ∧ b ≠ a, L.m, L.H⟩
theorem RepV.cell {a : Addr} {v : V} {x : Val} (r : RepV W L v x) : RepV W (L.cell a) v x := by
  cases x with
  | d x => exact r
  | r i =>
    obtain ⟨b, e, q⟩ := r
    exact ⟨b, by show (L.m ++ [a])[i]? = some b; rw [List.getElem?_append_left (List.getElem?_eq_some_iff.mp e).1]; exact e, q⟩
theorem RepFV.cell {a : Addr} : ∀ {fs : List (Nat × Val)} {gs : List (Str × V)}, RepFV W L gs fs → RepFV W (L.cell a) gs fs
  | [], _, r => by cases r; exact .nil
  | (_, _) :: _, _, r => by cases r with | cons h0 h1 h2 => exact .cons h0 h1.cell (RepFV.cell h2)
theorem RepO.cell {a b : Addr} {o : MObj} (r : RepO W L b o) : RepO W (L.cell a) b o := by
  cases o with
  | lst ds => exact r
  | dic kvs => exact r
  | ins c fs =>
    obtain ⟨C, dx, gs, hc, e, r⟩ := r
    exact ⟨C, dx, gs, hc, e, r.cell⟩
theorem Ok.cell' {a : Addr} {ob : MObj} (o : Ok W L S) (z : L.Z a) (n : a ∉ L.m) (r : RepO W L a ob) : Ok W (L.cell a) { S with cells := S.cells ++ [ob] } := by
  refine ⟨o.zH, fun b h => ?_, ?_, ?_, fun i b ob' e1 e2 => ?_⟩
  · rcases List.mem_append.mp h with h | h
    · exact o.mz b h
    · rw [List.mem_singleton.mp h]
      exact z
  · exact List.nodup_append.mpr ⟨o.nd, by simp, fun b h c hc e => by
      rw [List.mem_singleton.mp hc] at e
      subst e
      exact n h⟩
  · show (L.m ++ [a]).length = (S.cells ++ [ob]).length
    rw [List.length_append, List.length_append, o.len]
    rfl
  · have e1 : (L.m ++ [a])[i]? = some b := e1
    have e2 : (S.cells ++ [ob])[i]? = some ob' := e2
    by_cases hi : i < L.m.length
    · rw [List.getElem?_append_left hi] at e1
      rw [List.getElem?_append_left (by rw [← o.len]; exact hi)] at e2
      exact (o.cel i b ob' e1 e2).cell
    · have hl := o.len
      rw [List.getElem?_append_right (by omega)] at e1 e2
      have hi0 : i - L.m.length = 0 := by
        have := (List.getElem?_eq_some_iff.mp e1).1
        simp at this
        omega
      rw [hi0] at e1
      rw [← hl, hi0] at e2
      cases e1
      cases e2
      exact r.cell
theorem Stp.cell {a : Addr} (s : Stp L0 L) (z : L.Z a) (z0 : ¬ L0.Z a) : Stp L0 (L.cell a) := by
  refine ⟨s.zz, s.nw, ?_, fun b h n => ?_, s.mz, fun b h => ?_, s.kp, s.tp⟩
  · obtain ⟨r, e⟩ := s.mm
    exact ⟨r ++ [a], by show L.m ++ [a] = _; rw [e, List.append_assoc]⟩
  · rcases List.mem_append.mp h with h | h
    · exact s.mr b h n
    · rw [List.mem_singleton.mp h]
      exact z0
  · rcases List.mem_append.mp h with h | h
    · exact s.mz' b h
    · rw [List.mem_singleton.mp h]
      exact z
/-- one value laid -/
def LayOk (W : Wd) (L0 L : Lo) (S S1 : Pk.St) (v : V) (a : RV) (x : Val) : Prop :=
  ∃ L1 : Lo, L1.H = L.H ∧ Stp L0 L1 ∧ Ok W L1 S1 ∧ RepV W L1 v x ∧ S1.esc = S.esc ∧ (∃ news, S1.cells = S.cells ++ news) ∧
    (∀ v' x', RepV W L v' x' → RepV W L1 v' x') ∧ (∀ v' a', RepR W L0 L v' a' → (∀ p, tempOf v a = some p → tempOf v' a' ≠ some p) → RepR W L0 L1 v' a')
theorem frz_ok {v : V} {a : RV} {x : Val} (s : Stp L0 L) (o : Ok W L S) (r : RepR W L0 L v a) (e : lift a.frz S = .ok x S1) : LayOk W L0 L S S1 v a x := by
  obtain ⟨e1, e2⟩ := lift_ok e
  subst e2
  cases a with
  | v y =>
    cases e1
    exact ⟨L, rfl, s, o, r, rfl, ⟨[], by simp⟩, fun _ _ h => h, fun _ _ h _ => h⟩
  | tmp ob =>
    obtain ⟨d, e3, e4⟩ := Option.map_eq_some_iff.mp (show ob.toD.map Val.d = some x from e1)
    subst e4
    obtain ⟨p, ev, z, z0, n, ro⟩ := id r
    subst ev
    have hz : ∀ b, (L.Z b ∧ b ≠ p) → L.Z b := fun b h => h.1
    have hm : ∀ b ∈ L.m, L.Z b ∧ b ≠ p := fun b h => ⟨o.mz b h, fun q => by subst q; exact n h⟩
    refine ⟨L.less p, rfl, s.less hz hm (fun b h => ⟨s.zz b h, fun q => by subst q; exact z0 h⟩), o.less hz hm, ?_, rfl, ⟨[], by simp⟩, fun v' x' h => h.less hz, fun v' a' h hd => ?_⟩
    · exact (r.dat (show (RV.tmp ob).toD = some d from e3)).mono (Keeps.less fun b h => ⟨h.1, fun q => by cases q; exact h.2 rfl⟩)
    · cases a' with
      | v y => exact RepV.less hz h
      | tmp ob' =>
        obtain ⟨p', e', z', z0', n', ro'⟩ := h
        subst e'
        exact ⟨p', rfl, ⟨z', fun q => hd p rfl (by subst q; rfl)⟩, z0', n', ro'.less hz⟩
theorem lay_ok {c : Bool} {v : V} {a : RV} {x : Val} (s : Stp L0 L) (o : Ok W L S) (r : RepR W L0 L v a) (e : lay c a S = .ok x S1) : LayOk W L0 L S S1 v a x := by
  cases c with
  | false =>
    refine frz_ok s o r ?_
    cases a <;> exact e
  | true =>
    cases a with
    | v y => exact frz_ok s o r e
    | tmp ob =>
      cases (show Res.ok (Val.r S.cells.length) { S with cells := S.cells ++ [ob] } = Res.ok x S1 from e)
      obtain ⟨p, ev, z, z0, n, ro⟩ := r
      subst ev
      refine ⟨L.cell p, rfl, s.cell z z0, o.cell' z n ro, ⟨p, ?_, rfl⟩, rfl, ⟨[ob], rfl⟩, fun _ _ h => h.cell, fun v' a' h hd => ?_⟩
      · show (L.m ++ [p])[S.cells.length]? = some p
        rw [← o.len]
        simp
      · cases a' with
        | v y => exact RepV.cell h
        | tmp ob' =>
          obtain ⟨p', e', z', z0', n', ro'⟩ := h
          subst e'
          refine ⟨p', rfl, z', z0', fun q => ?_, ro'.cell⟩
          rcases List.mem_append.mp q with q | q
          · exact n' q
          · rw [List.mem_singleton.mp q] at hd
            exact hd p rfl rfl
theorem paired_out {R : V → RV → Prop} {R' : V → RV → Prop} : ∀ {vs : List V} {as : List RV}, Paired R vs as → (∀ v a, R v a → (∀ p, tempOf v a = some p → p ∈ temps vs as) → R' v a) → Paired R' vs as := fun h k => Paired.mapP (paired_mem h) fun v a q => k v a q.1 q.2
/-- the parameters' values -/
theorem binds_ok : ∀ {cs : List Bool} {as : List RV} {vs : List V} {xs : List Val} {L : Lo} {S S1 : Pk.St}, Stp L0 L → Ok W L S → RepRs W L0 L vs as → binds cs as S = .ok xs S1 →
    ∃ L1, L1.H = L.H ∧ Stp L0 L1 ∧ Ok W L1 S1 ∧ Paired (fun v x => RepV W L1 v x) vs xs ∧ S1.esc = S.esc ∧ (∃ news, S1.cells = S.cells ++ news) ∧ (∀ v' x', RepV W L v' x' → RepV W L1 v' x') ∧ cs.length = as.length
  | [], [], vs, xs, L, S, S1, s, o, r, e => by
    cases (show Res.ok ([] : List Val) S = .ok xs S1 from e)
    cases r.all
    exact ⟨L, rfl, s, o, .nil, rfl, ⟨[], by simp⟩, fun _ _ h => h, rfl⟩
  | c :: cs, a :: as, vs, xs, L, S, S1, s, o, r, e => by
    obtain ⟨hall, hnd⟩ := r
    cases hall with
    | cons r1 t =>
      rename_i v vs
      unfold binds at e
      obtain ⟨x, S2, e1, e2⟩ := bnd_ok e
      obtain ⟨ys, S3, e3, e4⟩ := bnd_ok e2
      cases (show Res.ok (x :: ys) S3 = .ok xs S1 from e4)
      obtain ⟨L2, h2, s2, o2, r2, q2, ⟨n2, c2⟩, k2, kr⟩ := lay_ok s o r1 e1
      rw [temps_cons] at hnd
      have rest : RepRs W L0 L2 vs as := by
        refine ⟨paired_out t fun v' a' h hm => kr v' a' h fun p ep ep' => ?_, ?_⟩
        · rw [ep] at hnd
          exact (List.nodup_cons.mp hnd).1 (hm p ep')
        · cases ep : tempOf v a with
          | none => rw [ep] at hnd; exact hnd
          | some p => rw [ep] at hnd; exact (List.nodup_cons.mp hnd).2
      obtain ⟨L3, h3, s3, o3, r3, q3, ⟨n3, c3⟩, k3, hl⟩ := binds_ok s2 o2 rest e3
      exact ⟨L3, h3.trans h2, s3, o3, .cons (k3 _ _ r2) r3, q3.trans q2, ⟨n2 ++ n3, by rw [c3, c2, List.append_assoc]⟩, fun v' x' h => k3 _ _ (k2 _ _ h), by rw [List.length_cons, List.length_cons, hl]⟩
  | [], _ :: _, _, _, _, _, _, _, _, _, e => by cases e
  | _ :: _, [], _, _, _, _, _, _, _, _, e => by cases e
theorem lay_exc {c : Bool} {a : RV} {e : D} (h : lay c a S = .exc e S1) : False := by
  cases c <;> cases a <;> first | exact lift_exc h | cases h
theorem bnd_exc {α β : Type} {m : M α} {f : α → M β} {e : D} (h : bnd m f S = .exc e S') : m S = .exc e S' ∨ ∃ a S1, m S = .ok a S1 ∧ f a S1 = .exc e S' := by
  unfold bnd at h
  split at h
  · rename_i a S1 e1
    exact .inr ⟨a, S1, e1, h⟩
  · rename_i e1
    cases h
    exact .inl e1
  · cases h
theorem binds_exc : ∀ {cs : List Bool} {as : List RV} {S S1 : Pk.St} {e : D}, binds cs as S = .exc e S1 → False
  | [], [], _, _, _, h => by cases h
  | c :: cs, a :: as, S, S1, e, h => by
    unfold binds at h
    rcases bnd_exc h with h | ⟨x, S2, _, h⟩
    · exact lay_exc h
    · rcases bnd_exc h with h | ⟨x, S2, _, h⟩
      · exact binds_exc h
      · cases h
  | [], _ :: _, _, _, _, h => by cases h
  | _ :: _, [], _, _, _, h => by cases h
/-- the slots at the entry -/
theorem RepE.start {N : List Str} {vs : List V} {xs : List Val} {n : Nat} (h : Paired (fun v x => RepV W L v x) vs xs) (hn : n = N.length) (hl : vs.length ≤ N.length) : RepE W L (L2.start N vs) (xs.map some ++ List.replicate (n - xs.length) none) := by
  have hx := paired_length h
  refine ⟨?_, fun i x e => ?_⟩
  · unfold L2.start
    rw [List.length_append, List.length_append, List.length_map, List.length_map, List.length_replicate, List.length_replicate]
    omega
  · have hi : i < xs.length := by
      by_cases hi : i < xs.length
      · exact hi
      · rw [List.getElem?_append_right (by simpa using hi), List.getElem?_replicate] at e
        split at e <;> cases e
    rw [List.getElem?_append_left (by simpa using hi), List.getElem?_map] at e
    have ex : xs[i]? = some x := by
      cases q : xs[i]? with
      | none => rw [q] at e; cases e
      | some y => rw [q] at e; cases e; rfl
    have hp : ∀ {vs : List V} {xs : List Val} {i : Nat} {x : Val}, Paired (fun v x => RepV W L v x) vs xs → xs[i]? = some x → ∃ v, vs[i]? = some v ∧ RepV W L v x := by
      intro vs xs i x h
      induction h generalizing i with
      | nil => intro e; simp at e
      | cons r t ih =>
        intro e
        cases i with
        | zero => simp at e; subst e; exact ⟨_, rfl, r⟩
        | succ i => exact ih (by simpa using e)
    obtain ⟨v, ev, rv⟩ := hp h ex
    refine ⟨v, ?_, rv⟩
    unfold L2.start
    rw [List.getElem?_append_left (by rw [List.length_map]; omega), List.getElem?_map, ev]
    rfl
/-! ### the end -/
theorem fsD_refs : ∀ {fs : List (Nat × Val)} {gs : List (Nat × D)}, fsD fs = some gs → ∀ p ∈ fs, ∀ j, p.2 ≠ .r j
  | [], _, _, p, h, _ => by cases h
  | (i, .d x) :: fs, gs, e, p, h, j => by
    obtain ⟨gs', e1, _⟩ := Option.map_eq_some_iff.mp (show (fsD fs).map ((i, x) :: ·) = some gs from e)
    rcases List.mem_cons.mp h with q | q
    · rw [q]
      exact fun z => by cases z
    · exact fsD_refs e1 p q j
  | (_, .r _) :: _, _, e, _, _, _ => by cases e
theorem toD_refs {o : MObj} {d : D} {n : Nat} (e : o.toD = some d) : RefsLt n o := by
  cases o with
  | lst _ => exact trivial
  | dic _ => exact trivial
  | ins c fs =>
    obtain ⟨gs, e1, _⟩ := Option.map_eq_some_iff.mp (show (fsD fs).map (D.ins c) = some d from e)
    exact fun p hp j q => (fsD_refs e1 p hp j q).elim
theorem Ok.esc (o : Ok W L S) (e : List Nat) : Ok W L ⟨S.cells, e⟩ := ⟨o.zH, o.mz, o.nd, o.len, o.cel⟩
theorem leave_ok {v : RV} {u : V} {P : RV → Pk.St → Lo → Prop} {news : List MObj} (s0 : Stp L0 L) (hS : Ok W L S) (q0 : SS S0 S) (s1 : Stp L0 L1) (hc : S1.cells = S.cells ++ news) (he : S1.esc = [])
    (s' : Stp L1 L') (o' : Ok W L' S') (q' : SS S1 S') (r : RepR W L1 L' u v) (h : Out W EF L0 S0 (leave S.cells.length S.esc v S') P) :
    ∃ L3 v' S3, L3.H = L'.H ∧ RepR W L0 L3 u v' ∧ P v' S3 L3 := by
  have st := s1.trans s'
  have hn0 : L0.m.length ≤ S.cells.length := by
    obtain ⟨r, e⟩ := s0.mm
    rw [← hS.len, e, List.length_append]
    omega
  -- nothing is cut
  have whole : ∀ {v' : RV}, RepR W L0 L' u v' → Out W EF L0 S0 (.ok v' ⟨S'.cells, S'.esc ++ S.esc⟩) P → ∃ L3 v' S3, L3.H = L'.H ∧ RepR W L0 L3 u v' ∧ P v' S3 L3 := by
    intro v' rv' h
    refine ⟨L', v', _, rfl, rv', h L' st (o'.esc _) ?_⟩
    obtain ⟨l0, e0, x0, k0⟩ := q0
    obtain ⟨l1, e1, x1, k1⟩ := q'
    have hl : S.cells.length ≤ S1.cells.length := by rw [hc, List.length_append]; omega
    refine ⟨by show S0.cells.length ≤ S'.cells.length; omega, S'.esc ++ e0, by show S'.esc ++ S.esc = _; rw [x0, List.append_assoc], fun n k hn hk hne hr o eo => ?_⟩
    refine k1 n k (by omega) hk (fun z => hne (List.mem_append_left _ (by rw [x1]; exact List.mem_append_left _ z))) (fun o eo => ?_) o eo
    rw [hc, List.getElem?_append_left (by omega)] at eo
    exact k0 n k hn hk (fun z => hne (List.mem_append_right _ z)) hr o eo
  have wholeR : RepR W L0 L' u v := r.from s1
  unfold leave at h
  split at h
  · rename_i hesc
    have hesc : ∀ k ∈ S'.esc, S.cells.length ≤ k := fun k hk => of_decide_eq_true (List.all_eq_true.mp hesc k hk)
    obtain ⟨l1, e1, x1, k1⟩ := id q'
    rw [he, List.append_nil] at x1
    have hl : S.cells.length ≤ S1.cells.length := by rw [hc, List.length_append]; omega
    have hn : ∀ k ob, k < S.cells.length → S'.cells[k]? = some ob → RefsLt S.cells.length ob := by
      intro k ob hk eo
      refine k1 S.cells.length k hl hk (fun z => ?_) (fun o eo => ?_) ob eo
      · rw [← x1] at z
        have := hesc k z
        omega
      · rw [hc, List.getElem?_append_left hk] at eo
        have hk2 : k < L.m.length := by rw [hS.len]; exact hk
        have := (hS.cel k _ o (List.getElem?_eq_getElem hk2) eo).refs
        rwa [hS.len] at this
    have o3 : Ok W (L'.cut S.cells.length fun _ => False) ⟨S'.cells.take S.cells.length, S.esc⟩ := o'.cut hn fun _ _ => id
    have s3 : Stp L0 (L'.cut S.cells.length fun _ => False) := st.cut hn0 (fun _ _ => id) fun _ _ => id
    have q3 : SS S0 ⟨S'.cells.take S.cells.length, S.esc⟩ := by
      obtain ⟨l0, e0, x0, k0⟩ := q0
      refine ⟨by show S0.cells.length ≤ (S'.cells.take S.cells.length).length; rw [List.length_take]; omega, e0, x0, fun n k hn hk hne hr o eo => ?_⟩
      have eo : (S'.cells.take S.cells.length)[k]? = some o := eo
      rw [List.getElem?_take_of_lt (by omega)] at eo
      refine k1 n k (by omega) hk (fun z => ?_) (fun o eo => ?_) o eo
      · rw [← x1] at z
        have := hesc k z
        omega
      · rw [hc, List.getElem?_append_left (by omega)] at eo
        exact k0 n k hn hk hne hr o eo
    have part : ∀ {v' : RV}, Out W EF L0 S0 (.ok v' ⟨S'.cells.take S.cells.length, S.esc⟩) P → RepR W L0 (L'.cut S.cells.length fun _ => False) u v' → ∃ L3 v' S3, L3.H = L'.H ∧ RepR W L0 L3 u v' ∧ P v' S3 L3 := fun h r => ⟨L'.cut S.cells.length fun _ => False, _, _, rfl, r, h _ s3 o3 q3⟩
    split at h
    · refine part h ?_
      exact RepD.mono (Keeps.less fun _ z => z.1) r
    · rename_i ob
      split at h
      · rename_i d ed
        obtain ⟨a, ev, z, z0, n, ro⟩ := r
        refine part h ?_
        exact ⟨a, ev, ⟨z, id⟩, fun q => z0 (s1.zz a q), fun q => n (mem_take q), ro.cut (toD_refs ed)⟩
      · exact whole wholeR h
    · rename_i i
      split at h
      · rename_i hi
        obtain ⟨a, ea, ev⟩ := r
        refine part h ?_
        exact ⟨a, by show (L'.m.take S.cells.length)[i]? = some a; rw [List.getElem?_take_of_lt hi]; exact ea, ev⟩
      · rename_i hi
        split at h
        · rename_i ob eo
          split at h
          · rename_i d ed
            obtain ⟨a, ea, ev⟩ := r
            have ro := o'.cel i a ob ea eo
            have hia := (List.getElem?_eq_some_iff.mp ea)
            have notin : ∀ n, n ≤ i → a ∉ L'.m.take n := fun n hn q => by
              obtain ⟨j, hj⟩ := List.getElem?_of_mem q
              have hjn : j < n := by
                have := (List.getElem?_eq_some_iff.mp hj).1
                rw [List.length_take] at this
                omega
              rw [List.getElem?_take_of_lt hjn] at hj
              have hjl := (List.getElem?_eq_some_iff.mp hj)
              have := (List.getElem_inj o'.nd).mp (hjl.2.trans hia.2.symm)
              omega
            refine part h ?_
            refine ⟨a, ev, ⟨o'.mz a (List.mem_of_getElem? ea), id⟩, st.mr a (List.mem_of_getElem? ea) fun q => ?_, notin _ (by omega), ro.cut (toD_refs ed)⟩
            obtain ⟨r, e⟩ := st.mm
            refine notin L0.m.length (by omega) ?_
            rw [e, List.take_left]
            exact q
          · exact whole wholeR h
        · exact h.elim
  · exact whole wholeR h
/-! ### statements' readings -/
def FlOk (W : Wd) (L L' : Lo) (D : Ends) : Fl × Pk.Env → Prop
  | (.nx, ρ) => ∀ σ, RepE W L' σ ρ → D.nx σ L'.H
  | (.brk, ρ) => ∀ σ, RepE W L' σ ρ → D.bk σ L'.H
  | (.cont, ρ) => ∀ σ, RepE W L' σ ρ → D.ct σ L'.H
  | (.ret v, _) => ∀ u, RepR W L L' u v → D.rt u L'.H
def RdS (W : Wd) (m : Pk.Env → M (Fl × Pk.Env)) : TS := fun D σ H => ∃ L ρ S, L.H = H ∧ Ok W L S ∧ RepE W L σ ρ ∧ Out W EF L S (m ρ S) fun p _ L' => FlOk W L L' D p
/-- a call, by the body's run -/
theorem RdS.body {tx : Tx} {df : Def} {N : List Str} {vs : List V} {H : Hp} {Q : VK} {E : XK} (hN : df.slots = N.length) (hp : df.params.length ≤ N.length) (h : SpOf W (callDef tx df) vs H Q E) :
    RdS W (evB tx df.body) { nx := fun _ H' => Q .non H', rt := Q } (L2.start N vs) H := by
  obtain ⟨L0, S0, L, S, as, rfl, s0, hS, q0, r, h⟩ := h
  have h : Out W EF L0 S0 (match bnd (binds df.params as) (fun xs => bnd (evB tx df.body (xs.map some ++ List.replicate (df.slots - xs.length) none)) fun p => match p with
    | (.nx, _) => ret (dv .non)
    | (.ret v, _) => ret v
    | _ => fail) { S with esc := [] } with
  | .ok v S' => leave S.cells.length S.esc v S'
  | .exc e S' => .exc e ⟨S'.cells, S'.esc ++ S.esc⟩
  | .err => .err) _ := h
  cases eb : binds df.params as { S with esc := [] } with
  | err =>
    unfold bnd at h
    rw [eb] at h
    exact h.elim
  | exc e S1 => exact (binds_exc eb).elim
  | ok xs S1 =>
    obtain ⟨L1, h1, s1, o1, r1, q1, ⟨news, c1⟩, _, hl⟩ := binds_ok s0 (hS.esc []) r eb
    have c1 : S1.cells = S.cells ++ news := c1
    have hvl : vs.length ≤ N.length := by rw [paired_length r.all, ← hl]; exact hp
    refine ⟨L1, _, S1, h1, o1, RepE.start r1 hN hvl, ?_⟩
    unfold bnd at h
    rw [eb] at h
    dsimp only at h
    cases ev : evB tx df.body (xs.map some ++ List.replicate (df.slots - xs.length) none) S1 with
    | err =>
      rw [ev] at h
      exact h.elim
    | exc e S' =>
      rw [ev] at h
      intro L' cls d s' o' q' rx
      refine h L' cls d (s1.trans s') (o'.esc _) ?_ rx
      obtain ⟨l0, e0, x0, k0⟩ := q0
      obtain ⟨l1, e1, x1, k1⟩ := q'
      have hl : S.cells.length ≤ S1.cells.length := by rw [c1, List.length_append]; omega
      refine ⟨by show S0.cells.length ≤ S'.cells.length; omega, S'.esc ++ e0, by show S'.esc ++ S.esc = _; rw [x0, List.append_assoc], fun n k hn hk hne hr o eo => ?_⟩
      refine k1 n k (by omega) hk (fun z => hne (List.mem_append_left _ (by rw [x1]; exact List.mem_append_left _ z))) (fun o eo => ?_) o eo
      rw [c1, List.getElem?_append_left (by show k < S.cells.length; omega)] at eo
      exact k0 n k hn hk (fun z => hne (List.mem_append_right _ z)) hr o eo
    | ok p S' =>
      rw [ev] at h
      intro L' s' o' q'
      obtain ⟨fl, ρ'⟩ := p
      cases fl with
      | nx =>
        intro σ _
        obtain ⟨L3, v', S3, e3, rr, hp⟩ := leave_ok (u := V.non) (v := dv .non) s0 hS q0 s1 c1 q1 s' o' q' .non h
        rw [← e3]
        exact hp V.non rr
      | ret v =>
        intro u ru
        obtain ⟨L3, v', S3, e3, rr, hp⟩ := leave_ok s0 hS q0 s1 c1 q1 s' o' q' ru h
        rw [← e3]
        exact hp u rr
      | brk => exact h.elim
      | cont => exact h.elim
theorem SpOf.len {tx : Tx} {df : Def} {vs : List V} {H : Hp} {Q : VK} {E : XK} (h : SpOf W (callDef tx df) vs H Q E) : vs.length = df.params.length := by
  obtain ⟨L0, S0, L, S, as, rfl, s0, hS, q0, r, h⟩ := h
  unfold callDef at h
  cases eb : binds df.params as { S with esc := [] } with
  | err =>
    unfold bnd at h
    rw [eb] at h
    exact h.elim
  | exc e S1 => exact (binds_exc eb).elim
  | ok xs S1 =>
    obtain ⟨L1, h1, s1, o1, r1, q1, ⟨news, c1⟩, _, hl⟩ := binds_ok s0 (hS.esc []) r eb
    rw [paired_length r.all, hl]
end
end Pk
end
section
set_option Elab.async false
set_option linter.all false
set_option maxRecDepth 100000
/-! Expressions, node by node. -/
namespace Pk
open PySem L2 PyProof.Rows

section
variable {X : Cx} {W : Wd} {σ : L2.St} {H : Hp} {Q : VK}
/-- nothing is asked of what fails -/
theorem pe_fails {e : Expr} : PE X e (RdE W WF fun _ => fail) := ⟨fun pins s σ H Q I h => by
  obtain ⟨L, ρ, S, _, _, _, h⟩ := h
  exact h.elim⟩
theorem RdE.fails {m : Pk.Env → M RV} (hm : ∀ ρ S, m ρ S = .err) {e : Expr} : PE X e (RdE W WF m) := ⟨fun pins s σ H Q I h => by
  obtain ⟨L, ρ, S, _, _, _, h⟩ := h
  rw [hm] at h
  exact h.elim⟩
theorem n_const {c : Const} {j : Nat} {pos : Pos} {d : D} {tx : Tx} (h : litC c = some d) : PE X (.Constant c j pos) (RdE W WF (evE tx (.c d))) := by
  have e : evE tx (.c d) = fun _ => ret (dv d) := by
    funext ρ
    rw [evE] <;> rfl
  rw [e]
  cases c <;> cases h
  · exact PE.imp pe_non fun σ H Q q => RdE.const (fun _ _ => .non) q
  · exact PE.imp pe_bl fun σ H Q q => RdE.const (fun _ _ => .bl _) q
  · exact PE.imp pe_int fun σ H Q q => RdE.const (fun _ _ => .int _) q
  · exact PE.imp pe_str fun σ H Q q => RdE.const (fun _ _ => .str _) q
theorem n_var {i : Nat} {x : Str} {pos : Pos} {tx : Tx} (hN : X.N[i]? = some x) (hv : Vis X.env.scope x) (hd : (x == ("__debug__" : Str)) = false) (hc : (x == ("__classdict__" : Str)) = false) : PE X (.Name x pos) (RdE W WF (evE tx (.v i))) := by
  have e : evE tx (.v i) = fun ρ => match ρ[i]? with
    | some (some x) => ret (.v x)
    | _ => fail := by
    funext ρ
    rw [evE] <;> rfl
  rw [e]
  exact PE.imp (pe_var hN hv hd hc) fun σ H Q q => RdE.var q
theorem n_glob {x : Str} {pos : Pos} {tx : Tx} (hg : Gl X x) (hx : ∀ d, tx.glob x = some d → ∃ v u, X.mg x = some u ∧ RelV v u ∧ ∀ Z H, RepD W Z H v d) (hd : (x == ("__debug__" : Str)) = false) : PE X (.Name x pos) (RdE W WF (evE tx (.g x))) := by
  have e : evE tx (.g x) = fun ρ => match tx.glob x with
    | some d => ret (dv d)
    | none => fail := by
    funext ρ
    rw [evE] <;> rfl
  rw [e]
  cases eg : tx.glob x with
  | none => exact pe_fails
  | some d =>
    obtain ⟨v, u, hm, r, hr⟩ := hx d eg
    exact PE.imp (pe_glob hg hm r hd) fun σ H Q q => RdE.const hr q
theorem un_neg1 : UnR X (unaryOp .USub) (rD1 W fun d => match d with
    | .int i => some (iv (-i))
    | _ => none) := by
  intro pins s σ H x v Q I rx h
  obtain ⟨Z, dx, rv, hx, e, q⟩ := h
  dsimp only at e
  split at e
  · cases e
    exact un_neg pins s σ H x v Q I rx ⟨_, hx.int, q _ _ (Fresh.int _)⟩
  · cases e
theorem n_neg {a : Expr} {pos : Pos} {tx : Tx} {ma : ME} (ha : PE X a (RdE W WF (evE tx ma))) : PE X (.UnaryOp .USub a pos) (RdE W WF (evE tx (.neg ma))) := by
  refine PE.imp (pe_un (un_neg1 (W := W)) ha) fun σ H Q q => ?_
  refine RdE.one (g := fun d => match d with
    | .int i => ret (iv (-i))
    | _ => fail) (fun x => by cases x <;> rfl) ?_
  have e : evE tx (.neg ma) = fun ρ => bnd (evE tx ma ρ) fun x => bnd (look1 x) fun d => match d with
    | .int i => ret (iv (-i))
    | _ => fail := by
    funext ρ
    rw [evE] <;> rfl
  rw [← e]
  exact q
theorem plainIx_of {b : Expr} (h : nice b = true) : PlainIx b := by
  intro o i
  cases b <;> first | rfl | (cases h)
theorem n_bin {a b : Expr} {op : Operator} {pos : Pos} {tx : Tx} {ma mb : ME} (hW : W.K = X.K) (ha : PE X a (RdE W WF (evE tx ma))) (hb : PE X b (RdE W WF (evE tx mb))) : PE X (.BinOp a op b pos) (RdE W WF (evE tx (.bin op ma mb))) := by
  refine PE.imp (pe_op (op_bin hW op) ha hb) fun σ H Q q => ?_
  refine RdE.two (g := fun ds => match ds with
    | [x, y] => lift (binD op x y)
    | _ => fail) (fun x y => rfl) ?_
  have e : evE tx (.bin op ma mb) = fun ρ => bnd (evE tx ma ρ) fun x => bnd (evE tx mb ρ) fun y => bnd (lookAll [x, y]) fun ds => match ds with
    | [x, y] => lift (binD op x y)
    | _ => fail := by
    funext ρ
    rw [evE] <;> rfl
  rw [← e]
  exact q
theorem n_sub {a b : Expr} {pos : Pos} {tx : Tx} {ma mb : ME} (hW : W.K = X.K) (hu : X.A.units + 65 < cLine) (hn : nice b = true) (ha : PE X a (RdE W WF (evE tx ma))) (hb : PE X b (RdE W WF (evE tx mb))) : PE X (.Subscript a b pos) (RdE W WF (evE tx (.sub ma mb))) := by
  refine PE.imp (pe_ix (ix_D hW hu) ha hb (plainIx_of hn)) fun σ H Q q => ?_
  refine RdE.two (g := fun ds => match ds with
    | [x, y] => lift ((getD x y).map dv)
    | _ => fail) (fun x y => rfl) ?_
  have e : evE tx (.sub ma mb) = fun ρ => bnd (evE tx ma ρ) fun x => bnd (evE tx mb ρ) fun y => bnd (lookAll [x, y]) fun ds => match ds with
    | [x, y] => lift ((getD x y).map dv)
    | _ => fail := by
    funext ρ
    rw [evE] <;> rfl
  rw [← e]
  exact q
/-- a slice's part -/
def RdO (W : Wd) (b : Bool) (m : Pk.Env → M RV) : TO := fun σ H Q => ∃ L ρ S, L.H = H ∧ Ok W L S ∧ RepE W L σ ρ ∧ Out W EF L S (bnd (m ρ) (fun y => lift (partR b y)) S) fun o S' L' => Q o L'.H
theorem PO.imp {e : Option Expr} {t t' : TO} (h : PO X e t) (i : ∀ σ H Q, t' σ H Q → t σ H Q) : PO X e t' := ⟨fun pins s σ H Q I q => h.run pins s σ H Q I (i σ H Q q)⟩
theorem po_no {tx : Tx} : PO X none (RdO W false (evE tx (.c .non))) := by
  refine PO.imp po_none fun σ H Q q => ?_
  obtain ⟨L, ρ, S, rfl, hL, hE, h⟩ := q
  rw [evE] at h
  exact Out.ret hL (show Out W EF L S (ret none S) _ from h)
theorem po_yes {e : Expr} {m : Pk.Env → M RV} (he : PE X e (RdE W WF m)) : PO X (some e) (RdO W true m) := by
  refine PO.imp (po_some he) fun σ H Q q => ?_
  obtain ⟨L, ρ, S, rfl, hL, hE, h⟩ := q
  refine RdE.go hL hE h fun v a S1 L1 s1 o1 r1 h1 => ?_
  obtain ⟨o, e1, q1⟩ := Out.lift o1 h1
  unfold partR at e1
  rw [if_pos rfl] at e1
  split at e1
  · cases e1
    cases (show RepD W L1.Z L1.H v (.int _) from r1)
    exact ⟨_, rfl, q1⟩
  · cases e1
theorem n_slc {a : Expr} {lo hi : Option Expr} {p2 pos : Pos} {tx : Tx} {ma ml mh : ME} {bl bh : Bool} (hW : W.K = X.K) (ha : PE X a (RdE W WF (evE tx ma))) (hl : PO X lo (RdO W bl (evE tx ml))) (hh : PO X hi (RdO W bh (evE tx mh))) :
    PE X (.Subscript a (.Slice lo hi none p2) pos) (RdE W WF (evE tx (.slc ma ml mh bl bh))) := by
  refine PE.imp (pe_slice (sl_D hW) ha hl hh) fun σ H Q q => ?_
  obtain ⟨L, ρ, S, rfl, hL, hE, h⟩ := q
  rw [evE] at h
  refine RdE.go hL hE h fun v1 a1 S1 L1 s1 o1 r1 h1 => ?_
  rw [← bnd_assoc] at h1
  refine ⟨L1, ρ, S1, rfl, o1, hE.step s1, h1.bnd.imp fun l S2 L2 s2 o2 q2 h2 => ?_⟩
  rw [← bnd_assoc] at h2
  refine ⟨L2, ρ, S2, rfl, o2, (hE.step s1).step s2, h2.bnd.imp fun u S3 L3 s3 o3 q3 h3 => ?_⟩
  obtain ⟨d, e, h4⟩ := out_look1 o3 h3
  obtain ⟨rv, e3, q4⟩ := h4.lifts
  refine ⟨L3.Z, d, rv, ((r1.step s2).step s3).look o3 e, e3, fun v' H' fr => ?_⟩
  obtain ⟨L4, eH, s4, o4, r4, q5⟩ := Fresh.done o3 fr q4
  subst eH
  exact q5 v' (r4.from (s1.trans (s2.trans s3)))
theorem n_rev {a : Expr} {k : Nat} {p1 p2 p3 pos : Pos} {tx : Tx} {ma : ME} (ha : PE X a (RdE W WF (evE tx ma))) : PE X (.Subscript a (.Slice none none (some (.UnaryOp .USub (.Constant (.int 1) k p1) p2)) p3) pos) (RdE W WF (evE tx (.rev ma))) := by
  refine PE.imp (pe_revL ha) fun σ H Q q => ?_
  obtain ⟨L, ρ, S, rfl, hL, hE, h⟩ := q
  rw [evE] at h
  refine RdE.go hL hE h fun v1 a1 S1 L1 s1 o1 r1 h1 => ?_
  obtain ⟨d, e, h2⟩ := out_look1 o1 h1
  obtain ⟨rv, e3, q4⟩ := h2.lifts
  unfold revD at e3
  split at e3
  · cases e3
    obtain ⟨p, vs, ev, hp, rl⟩ := (r1.look o1 e : RepT W L1.Z L1.H v1 (.lst _))
    refine ⟨p, vs, ev, SqL.of hp, fun p' np => ?_⟩
    obtain ⟨L4, eH, s4, o4, r4, q5⟩ := Fresh.done o1 (Fresh.lst np rl.rev) q4
    rw [← eH]
    exact q5 _ (r4.from s1)
  · cases e3
end
end Pk
end
section
set_option Elab.async false
set_option linter.all false
set_option maxRecDepth 100000
/-! Attributes, built-in functions, isinstance. -/
namespace Pk
open PySem L2 PyProof.Rows

section
variable {X : Cx} {W : Wd} {σ : L2.St} {H : Hp} {Q : VK}
/-! ### attributes -/
theorem RepF.look {Z : Addr → Prop} {f : Str} {i : Nat} (hf : W.att i = some f) : ∀ {fs : List (Nat × D)} {gs : List (Str × V)} {d : D}, RepF W Z H gs fs → fs.lookup i = some d → ∃ v, gs.lookup f = some v ∧ RepD W Z H v d
  | [], _, _, _, e => by cases e
  | (j, x) :: fs, _, d, r, e => by
    cases r with
    | cons h0 h1 h2 =>
      rename_i f' v gs
      rw [List.lookup_cons] at e ⊢
      by_cases hij : i = j
      · subst hij
        rw [hf] at h0
        cases h0
        simp at e
        subst e
        exact ⟨v, by simp, h1⟩
      · have h3 : (i == j) = false := by simpa using hij
        rw [h3] at e
        have h4 : (f == f') = false := by
          cases hb : f == f' with
          | false => rfl
          | true =>
            have := eq_of_beq hb
            subst this
            exact (hij (W.inj i j _ hf h0)).elim
        rw [h4]
        exact RepF.look hf h2 e
theorem RepFV.look {L : Lo} {f : Str} {i : Nat} (hf : W.att i = some f) : ∀ {fs : List (Nat × Val)} {gs : List (Str × V)} {d : Val}, RepFV W L gs fs → fs.lookup i = some d → ∃ v, gs.lookup f = some v ∧ RepV W L v d
  | [], _, _, _, e => by cases e
  | (j, x) :: fs, _, d, r, e => by
    cases r with
    | cons h0 h1 h2 =>
      rename_i f' v gs
      rw [List.lookup_cons] at e ⊢
      by_cases hij : i = j
      · subst hij
        rw [hf] at h0
        cases h0
        simp at e
        subst e
        exact ⟨v, by simp, h1⟩
      · have h3 : (i == j) = false := by simpa using hij
        rw [h3] at e
        have h4 : (f == f') = false := by
          cases hb : f == f' with
          | false => rfl
          | true =>
            have := eq_of_beq hb
            subst this
            exact (hij (W.inj i j _ hf h0)).elim
        rw [h4]
        exact RepFV.look hf h2 e
theorem RepR.attr {L0 L : Lo} {S : Pk.St} {v : V} {a : RV} {i : Nat} {f : Str} {x : Val} (hL : Ok W L S) (r : RepR W L0 L v a) (hf : W.att i = some f) (e : attrOf S i a = some x) :
    ∃ p C dx gs u c, v = .ref p ∧ W.cls c = some C ∧ L.H p = some (.ins C dx gs) ∧ gs.lookup f = some u ∧ RepV W L u x := by
  cases a with
  | v y =>
    cases y with
    | d d =>
      cases d <;> first | (cases e; done) | skip
      rename_i c fs
      obtain ⟨d', e1, e2⟩ := Option.map_eq_some_iff.mp (show (fs.lookup i).map Val.d = some x from e)
      subst e2
      cases (show RepD W L.Z L.H v _ from r) with
      | ins h0 hc h1 h2 =>
        obtain ⟨u, e3, ru⟩ := h2.look hf e1
        exact ⟨_, _, _, _, u, c, rfl, hc, h1, e3, ru⟩
    | r k =>
      obtain ⟨p, em, ev⟩ := r
      obtain ⟨o, eo, ro⟩ := hL.cell em
      have e : (match S.cells[k]? with | some (.ins _ fs) => fs.lookup i | _ => none) = some x := e
      rw [eo] at e
      cases o with
      | ins c fs =>
        obtain ⟨C, dx, gs, hc, h1, h2⟩ := ro
        obtain ⟨u, e3, ru⟩ := h2.look hf e
        exact ⟨p, C, dx, gs, u, c, ev, hc, h1, e3, ru⟩
      | lst _ => cases e
      | dic _ => cases e
  | tmp o =>
    obtain ⟨p, ev, _, _, _, ro⟩ := r
    cases o with
    | ins c fs =>
      obtain ⟨C, dx, gs, hc, h1, h2⟩ := ro
      obtain ⟨u, e3, ru⟩ := h2.look hf (show fs.lookup i = some x from e)
      exact ⟨p, C, dx, gs, u, c, ev, hc, h1, e3, ru⟩
    | lst _ => cases e
    | dic _ => cases e
theorem n_attr {o : Expr} {f : Str} {pos : Pos} {tx : Tx} {mo : ME} {i : Nat} (hb : baseOk o = true) (hn : nice o = true) (ho : PE X o (RdE W WF (evE tx mo))) (hf : W.att i = some f)
    (hC : ∀ c C, W.cls c = some C → Cls X.K C ∧ NoAttr X.K C f) : PE X (.Attribute o f pos) (RdE W WF (evE tx (.attr mo i))) := by
  refine PE.imp (pe_fld ho (base_ok hb hn f X.env)) fun σ H Q q => ?_
  obtain ⟨L, ρ, S, rfl, hL, hE, h⟩ := q
  rw [evE] at h
  refine RdE.go hL hE h fun v1 a1 S1 L1 s1 o1 r1 h1 => ?_
  obtain ⟨rv, e, q1⟩ := Out.lift o1 (show Out W EF L1 S1 (lift ((attrOf S1 i a1).map RV.v) S1) _ from h1)
  obtain ⟨x, e1, e2⟩ := Option.map_eq_some_iff.mp e
  subst e2
  obtain ⟨p, C, dx, gs, u, c, ev, hc, hp, hl, ru⟩ := r1.attr o1 hf e1
  exact ⟨p, C, dx, gs, u, ev, hp, (hC c C hc).1, (hC c C hc).2, hl, q1 u ru⟩

/-! ### built-in functions -/
theorem evL_nil {tx : Tx} (ρ : Pk.Env) : evL tx [] ρ = ret [] := by rw [evL]
theorem ev_bf {tx : Tx} {f : Bf} {es : List ME} : evE tx (.bf f es) = fun ρ => bnd (evL tx es ρ) fun as => bnd (lookAll as) fun ds => lift (bfD f ds) := by
  funext ρ
  rw [evE]
theorem bfD_nil (f : Bf) : bfD f [] = none := by cases f <;> rfl
theorem find_tab {α : Type} {l : List (Str × α)} {x : Str} {f : α} (h : (l.find? (·.1 == x)).map (·.2) = some f) : (x, f) ∈ l := by
  obtain ⟨p, e1, e2⟩ := Option.map_eq_some_iff.mp h
  have hm := List.mem_of_find?_eq_some e1
  have hx : p.1 = x := by simpa using List.find?_some e1
  obtain ⟨a, b⟩ := p
  cases hx
  cases e2
  exact hm
def BfFacts (x : Str) (f : Bf) : Prop := (x == ("__debug__" : Str)) = false ∧ x ≠ "__name__" ∧ bootBuiltins x = some (bfVal f) ∧ (f ≠ .sortedSet ∧ f ≠ .lenSet ∧ f ≠ .sortedItems ∧ f ≠ .listValues) ∧ ((∃ id, bfVal f = .builtin id) ∨ ∃ T, bfVal f = .type T)
theorem bf_boot {x : Str} {f : Bf} (h : bfOf x = some f) : BfFacts x f := by
  have hm := find_tab h
  unfold bfTab at hm
  simp only [List.mem_cons, Prod.mk.injEq, List.not_mem_nil, or_false] at hm
  rcases hm with ⟨rfl, rfl⟩ | ⟨rfl, rfl⟩ | ⟨rfl, rfl⟩ | ⟨rfl, rfl⟩ | ⟨rfl, rfl⟩ | ⟨rfl, rfl⟩ | ⟨rfl, rfl⟩ | ⟨rfl, rfl⟩ | ⟨rfl, rfl⟩ | ⟨rfl, rfl⟩ | ⟨rfl, rfl⟩ | ⟨rfl, rfl⟩ | ⟨rfl, rfl⟩ | ⟨rfl, rfl⟩
  all_goals
    refine ⟨by decide +kernel, by decide +kernel, by decide +kernel, ⟨by decide, by decide, by decide, by decide⟩, ?_⟩
    first | exact .inl ⟨_, rfl⟩ | exact .inr ⟨_, rfl⟩
theorem n_bf {x : Str} {f : Bf} {p pos : Pos} {es : List Expr} {tx : Tx} {ms : List ME} (hW : W.K = X.K) (hc : X.calm = true) (hgu : X.A.guards = some []) (hu : X.A.units + 70 < cLine) (hx : bfOf x = some f) (hg : Gl X x) (hm : X.mg x = none) (h0 : es = [] → ms = [])
    (hs : ∀ e ∈ es, nice e = true) (ha : PA X es (RdA W WF (evL tx ms))) : PE X (.Call (.Name x p) es [] pos) (RdE W WF (evE tx (.bf f ms))) := by
  obtain ⟨hd, hn, hv, hf, hk⟩ := bf_boot hx
  cases es with
  | nil =>
    refine RdE.fails fun ρ S => ?_
    rw [h0 rfl, ev_bf]
    show bnd (evL tx [] ρ) _ S = _
    rw [evL_nil]
    show lift (bfD f []) S = _
    rw [bfD_nil]
    rfl
  | cons e es =>
    have he := nice_star (hs e (List.mem_cons_self ..)) es X.env
    have hpl := stars_nice (fun x q => hs x (List.mem_cons_of_mem e q)) X.env pos
    have hcr := call_bf hW hc hgu hu f hf
    rw [ev_bf]
    rcases hk with ⟨id, ek⟩ | ⟨T, ek⟩
    · rw [ek] at hcr hv
      exact PE.imp (pe_callB hcr hg hm hv ha hn hd he hpl) fun σ H Q q => RdE.args q
    · rw [ek] at hcr hv
      exact PE.imp (pe_callTy hcr hg hm hv ha hn hd he hpl) fun σ H Q q => RdE.args q

/-! ### isinstance -/
def tyName : D → String
  | .non => "NoneType"
  | .bl _ => "bool"
  | .int _ => "int"
  | .str _ => "str"
  | .tup _ => "tuple"
  | .lst _ => "list"
  | .scr _ => "list"
  | .dic _ => "dict"
  | _ => ""
def tyStr : Ty → String
  | .int => "int"
  | .bool => "bool"
  | .str => "str"
  | .tuple => "tuple"
  | .list => "list"
  | .dict => "dict"
  | .own _ => ""
def tyVv (W : Wd) : Ty → Option V
  | .own c => (W.cls c).map .ref
  | t => some (.ty (tyStr t))
def tyVal (W : Wd) : Ty → Option Value
  | .own c => (W.cls c).map .ref
  | t => some (.type (tyStr t))
/-- what isinstance asks of the classes -/
structure IsF (W : Wd) (K : PySem.W.Frag) : Prop where
  cls : ∀ c C, W.cls c = some C → Cls K C ∧ PySem.W.findIn K (.ref C) "__class__" = some (some (.builtin "object.__class__")) ∧ PySem.W.mroIn K C (.type "object") = some true
  g1 : PySem.W.specialIn K (.builtin "object.__class__") "__get__" = some (some (.builtin "getset_descriptor.__get__"))
  g2 : PySem.W.takesIn K (.builtin "object.__class__") = some true
  tn : ∀ c C, W.cls c = some C → ∀ n ∈ ["NoneType", "bool", "int", "str", "tuple", "list", "dict"], PySem.W.kitOne K (.type n) (.ref C) = some false
  nt : ∀ c C, W.cls c = some C → ∀ n ∈ ["bool", "int", "str", "tuple", "list", "dict"], PySem.W.kitOne K (.ref C) (.type n) = some false
  cc : ∀ c C c' C', W.cls c = some C → W.cls c' = some C' → PySem.W.kitOne K (.ref C) (.ref C') = some (c == c')
def kinds : List D := [.non, .bl true, .int 0, .str "", .tup [], .lst [], .scr [], .dic []]
theorem kit_data {K : PySem.W.Frag} {d : D} {t : Ty} (h : tyName d ≠ "") (ht : tyStr t ≠ "") : PySem.W.kitOne K (.type (tyName d)) (.type (tyStr t)) = some (tyOk t d == some true) := by
  cases d <;> first | (exact absurd rfl h) | skip
  all_goals
    cases t <;> first | (exact absurd rfl ht) | exact kit_ty (by simp only [tyName, tyStr, tyOk]; decide +kernel)
theorem RepT.tyx {Z : Addr → Prop} {v : V} {d : D} (hW : W.K = X.K) (h : RepT W Z H v d) (hd : ∀ c fs, d ≠ .ins c fs) : TyX X.K H v (.type (tyName d)) ∧ tyName d ∈ ["NoneType", "bool", "int", "str", "tuple", "list", "dict"] := by
  rw [← hW]
  cases d with
  | non => rw [h.non]; exact ⟨.base .non, by simp [tyName]⟩
  | bl b => rw [h.bl]; exact ⟨.base (.bl _), by simp [tyName]⟩
  | int b => rw [h.int]; exact ⟨.base (.int _), by simp [tyName]⟩
  | str b => rw [h.str]; exact ⟨.base (.str _), by simp [tyName]⟩
  | tup ds =>
    obtain ⟨a, vs, ev, ha, _⟩ := h.tup
    subst ev
    refine ⟨?_, by simp [tyName]⟩
    rcases ha with (ha | ⟨o, ha⟩) | ⟨o, its, n, hk, hc, _⟩
    · exact .base (.tup ha)
    · exact .fTuple ha
    · exact .kTuple hk hc
  | lst ds =>
    obtain ⟨a, vs, ev, ha, _⟩ := h
    subst ev
    exact ⟨.base (.lst ha), by simp [tyName]⟩
  | scr ns =>
    cases (show RepD W Z H v (.scr ns) from h) with
    | scr h1 =>
      refine ⟨?_, by simp [tyName]⟩
      rcases h1 with ⟨o, ha⟩ | ⟨o, its, n, hk, hc, _⟩
      · exact .base (.frz ha)
      · exact .kList hk hc
  | dic kvs =>
    obtain ⟨a, es, ev, ha, _⟩ := h
    subst ev
    refine ⟨?_, by simp [tyName]⟩
    rcases ha with ha | ⟨o, ha⟩
    · exact .base (.dK ha)
    · exact .fDict ha
  | ins c fs => exact (hd c fs rfl).elim
  | exc c fs => cases (show RepD W Z H v _ from h)
  | fn c => cases (show RepD W Z H v _ from h)
theorem kit_one {K : PySem.W.Frag} (F : IsF W K) {d : D} {t : Ty} {u : Value} (h : tyName d ∈ ["NoneType", "bool", "int", "str", "tuple", "list", "dict"]) (ht : tyVal W t = some u) (hd : ∀ c fs, d ≠ .ins c fs) : PySem.W.kitOne K (.type (tyName d)) u = some (tyOk t d == some true) := by
  have hne : tyName d ≠ "" := by
    intro e
    rw [e] at h
    simp at h
  cases t with
  | own c =>
    obtain ⟨C, e1, e2⟩ := Option.map_eq_some_iff.mp (show (W.cls c).map Value.ref = some u from ht)
    subst e2
    rw [F.tn c C e1 _ h]
    cases d <;> first | rfl | exact (hd _ _ rfl).elim
  | _ =>
    cases ht
    exact kit_data hne (by decide)
theorem kit_own {K : PySem.W.Frag} (F : IsF W K) {c : Nat} {C : Addr} {t : Ty} {u : Value} (hc : W.cls c = some C) (ht : tyVal W t = some u) : PySem.W.kitOne K (.ref C) u = some (t == .own c) := by
  cases t with
  | own c' =>
    obtain ⟨C', e1, e2⟩ := Option.map_eq_some_iff.mp (show (W.cls c').map Value.ref = some u from ht)
    subst e2
    rw [F.cc c C c' C' hc e1]
    by_cases e : c = c'
    · subst e
      simp
    · have h1 : (c == c') = false := by simpa using e
      have h2 : (Ty.own c' == Ty.own c) = false := by
        cases hb : Ty.own c' == Ty.own c with
        | false => rfl
        | true =>
          have := eq_of_beq hb
          injection this with this
          exact (e this.symm).elim
      rw [h1, h2]
  | _ =>
    cases ht
    refine (F.nt c C hc _ (by simp [tyStr])).trans ?_
    rfl
theorem kit_any {K : PySem.W.Frag} {t0 : Value} {g : Ty → Bool} : ∀ {ts : List Ty} {us : List Value}, (∀ t u, tyVal W t = some u → PySem.W.kitOne K t0 u = some (g t)) → Paired (fun t u => tyVal W t = some u) ts us → PySem.W.kitAny K t0 us = some (ts.any g)
  | _, _, _, .nil => rfl
  | t :: ts, u :: us, h, .cons r p => by
    unfold PySem.W.kitAny
    rw [h t u r, List.any_cons]
    cases g t with
    | true => rfl
    | false => exact kit_any h p
end
end Pk
end
section
set_option Elab.async false
set_option linter.all false
set_option maxRecDepth 100000
/-! isinstance, methods of built-in types. -/
namespace Pk
open PySem L2 PyProof.Rows

section
variable {X : Cx} {W : Wd} {σ : L2.St} {H : Hp} {Q : VK}
/-! ### isinstance -/
theorem ev_isi {tx : Tx} {a : ME} {ts : List Ty} : evE tx (.isi a ts) = fun ρ => bnd (evE tx a ρ) fun x => fun S => match clsOf S x with
    | some c => .ok (bv (ts.any fun t => t == .own c)) S
    | none => lift ((x.look S).map fun d => bv (ts.any fun t => tyOk t d == some true)) S := by
  funext ρ
  rw [evE] <;> rfl
theorem look_ins {S : Pk.St} {a : RV} {d : D} (e : a.look S = some d) (n : clsOf S a = none) : ∀ c fs, d ≠ .ins c fs := by
  intro c fs h
  subst h
  cases a with
  | v x =>
    cases x with
    | d x => cases e; cases n
    | r i =>
      have e : (match S.cells[i]? with | some o => o.toD | none => none) = some (D.ins c fs) := e
      have n : (match S.cells[i]? with | some (.ins c _) => some c | _ => none) = none := n
      cases eo : S.cells[i]? with
      | none => rw [eo] at e; cases e
      | some o =>
        rw [eo] at e n
        cases o with
        | ins _ _ => cases n
        | lst _ => cases e
        | dic _ => cases e
  | tmp o =>
    cases o with
    | ins _ _ => cases n
    | lst _ => cases e
    | dic _ => cases e
/-- what isinstance answers -/
theorem isi_ok {K : PySem.W.Frag} {L0 L : Lo} {S : Pk.St} {v : V} {a : RV} {ts : List Ty} {P : RV → Pk.St → Lo → Prop} (hW : W.K = X.K) (F : IsF W X.K) (hL : Ok W L S) (r : RepR W L0 L v a) (h : Out W EF L S ((fun S => match clsOf S a with
    | some c => .ok (bv (ts.any fun t => t == .own c)) S
    | none => lift ((a.look S).map fun d => bv (ts.any fun t => tyOk t d == some true)) S : M RV) S) P) :
    ∃ (t0 : Value) (g : Ty → Bool), TyX X.K L.H v t0 ∧ (∀ t u, tyVal W t = some u → PySem.W.kitOne X.K t0 u = some (g t)) ∧ P (bv (ts.any g)) S L := by
  cases ec : clsOf S a with
  | some c =>
    simp only [ec] at h
    obtain ⟨p, C, dx, gs, ev, hc, hp, _⟩ := r.cls hL ec
    subst ev
    obtain ⟨f1, f2, f3⟩ := F.cls c C hc
    exact ⟨.ref C, fun t => t == .own c, .base (.ins hp f1 f2 F.g1 F.g2 f3), fun t u ht => kit_own F hc ht, Out.ret hL h⟩
  | none =>
    simp only [ec] at h
    obtain ⟨rv, e, q⟩ := Out.lift hL h
    obtain ⟨d, e1, e2⟩ := Option.map_eq_some_iff.mp e
    subst e2
    have hd := look_ins e1 ec
    obtain ⟨h1, h2⟩ := (r.look hL e1).tyx hW hd
    exact ⟨_, fun t => tyOk t d == some true, h1, fun t u ht => kit_one F h2 ht hd, q⟩
theorem boot_isi : bootBuiltins "isinstance" = some (.builtin "isinstance") := by decide +kernel
/-- a class's name as a value -/
theorem pe_type {x : Str} {p : Pos} {t : Ty} {v : V} {u : Value} (hu : tyVal W t = some u) (hv : tyVv W t = some v) (hg : Gl X x) (hx : (x == ("__debug__" : Str)) = false)
    (h : (X.mg x = some u) ∨ (X.mg x = none ∧ bootBuiltins x = some u ∧ x ≠ "__name__")) : PE X (.Name x p) (tC v) := by
  have r : L2.RelV v u := by
    cases t with
    | own c =>
      obtain ⟨C, e1, e2⟩ := Option.map_eq_some_iff.mp (show (W.cls c).map Value.ref = some u from hu)
      obtain ⟨C', e3, e4⟩ := Option.map_eq_some_iff.mp (show (W.cls c).map V.ref = some v from hv)
      rw [e1] at e3
      cases e3
      subst e2 e4
      rfl
    | _ =>
      cases hu
      cases hv
      rfl
  rcases h with h | ⟨h1, h2, h3⟩
  · exact pe_glob hg h r hx
  · exact pe_bltn hg h1 h2 r h3 hx
theorem tyVv_some {t : Ty} {u : Value} (h : tyVal W t = some u) : ∃ v, tyVv W t = some v ∧ ClsV v u := by
  cases t with
  | own c =>
    obtain ⟨C, e1, e2⟩ := Option.map_eq_some_iff.mp (show (W.cls c).map Value.ref = some u from h)
    subst e2
    exact ⟨.ref C, by show (W.cls c).map V.ref = _; rw [e1]; rfl, .own C⟩
  | _ =>
    cases h
    exact ⟨_, rfl, .ty _⟩
theorem n_isi1 {a : Expr} {x : Str} {p p0 pos : Pos} {tx : Tx} {ma : ME} {t : Ty} {u : Value} (hW : W.K = X.K) (F : IsF W X.K) (ha : PE X a (RdE W WF (evE tx ma))) (hn : nice a = true) (hu : tyVal W t = some u)
    (hT : ∀ v, tyVv W t = some v → PE X (.Name x p) (tC v)) (hg : Gl X "isinstance") (hm : X.mg "isinstance" = none) : PE X (.Call (.Name "isinstance" p0) [a, .Name x p] [] pos) (RdE W WF (evE tx (.isi ma [t]))) := by
  obtain ⟨v, hv, cv⟩ := tyVv_some hu
  refine PE.imp (pe_callB call_isi hg hm boot_isi (pa_cons ha (pa_cons (hT v hv) pa_nil) (nice_star hn _ _)) (by decide) (by decide) (nice_star hn _ _)) fun σ H Q q => ?_
  obtain ⟨L, ρ, S, rfl, hL, hE, h⟩ := q
  rw [ev_isi] at h
  show RdE W WF (evE tx ma) σ L.H fun y H1 => rIsi X.K [y, v] H1 Q
  refine RdE.go hL hE h fun v1 a1 S1 L1 s1 o1 r1 h1 => ?_
  obtain ⟨t0, g, ty, hk, q⟩ := isi_ok (K := X.K) hW F o1 r1 h1
  refine ⟨v1, v, t0, u, g t, rfl, cv, ty, hk t u hu, ?_⟩
  have := q (.bl (g t)) (by show RepD W L1.Z L1.H _ (.bl ([t].any g)); rw [show [t].any g = g t from by simp]; exact .bl _)
  exact this
/-- constants in a row -/
theorem pa_consts {R : Expr → V → Prop} (hR : ∀ e v, R e v → PE X e (tC v) ∧ nice e = true) : ∀ {es : List Expr} {vs : List V}, Paired R es vs → PA X es (fun _ H Q => Q vs H)
  | _, _, .nil => pa_nil
  | e :: es, v :: vs, .cons r t => pa_cons (hR e v r).1 (pa_consts hR t) (nice_star (hR e v r).2 _ _)
theorem n_isiT {a : Expr} {es : List Expr} {kk : Nat} {p1 p0 pos : Pos} {tx : Tx} {ma : ME} {ts : List Ty} {us : List Value} {vs : List V} (hW : W.K = X.K) (F : IsF W X.K) (ha : PE X a (RdE W WF (evE tx ma))) (hn : nice a = true) (hu : Paired (fun t u => tyVal W t = some u) ts us)
    (hcv : Paired ClsV vs us) (hT : PA X es (fun _ H Q => Q vs H)) (hl : vs.length ≤ line) (hg : Gl X "isinstance") (hm : X.mg "isinstance" = none) : PE X (.Call (.Name "isinstance" p0) [a, .Tuple es kk p1] [] pos) (RdE W WF (evE tx (.isi ma ts))) := by
  refine PE.imp (pe_callB call_isiT hg hm boot_isi (pa_cons ha (pa_cons (pe_tup hT) pa_nil) (nice_star hn _ _)) (by decide) (by decide) (nice_star hn _ _)) fun σ H Q q => ?_
  obtain ⟨L, ρ, S, rfl, hL, hE, h⟩ := q
  rw [ev_isi] at h
  show RdE W WF (evE tx ma) σ L.H fun y H1 => vs.length ≤ sizeLine ∧ ∀ p, H1 p = none → rIsiT X.K [y, .ref p] (L2.upd H1 p (.tup vs)) Q
  refine RdE.go hL hE h fun v1 a1 S1 L1 s1 o1 r1 h1 => ⟨by rw [← line_eq]; exact hl, fun p np => ?_⟩
  have sm := Same.upd (o := .tup vs) np
  have o2 := o1.same sm
  have s2 := Stp.same o1 sm
  -- the tuple of the classes is laid first
  have h2 : Out W EF ⟨L1.Z, L1.m, L2.upd L1.H p (.tup vs)⟩ S1 _ _ := Out.later s2 (SS.refl S1) h1
  obtain ⟨t0, g, ty, hk, q⟩ := isi_ok (K := X.K) hW F o2 (r1.step s2) h2
  refine ⟨v1, p, vs, t0, us, ts.any g, rfl, upd_same, hcv, ty, kit_any hk hu, ?_⟩
  exact q (.bl (ts.any g)) (.bl _)
end
end Pk
end
section
set_option Elab.async false
set_option linter.all false
set_option maxRecDepth 100000
/-! What loops and comprehensions walk over. -/
namespace Pk
open PySem L2 PyProof.Rows

/-- what stands at turn i of a walk -/
def nth (w : Walk) (S : Pk.St) (i : Nat) : Option (Option D) := match w with
  | .row ds => some ds[i]?
  | .cell k => match S.cells[k]? with
    | some (.lst ds) => some ds[i]?
    | _ => none
/-- the iterator J walks w, from the place L on -/
structure Wk (W : Wd) (L : Lo) (J : L2.It) (w : Walk) : Prop where
  go : ∀ L' S' i x, Stp L L' → Ok W L' S' → nth w S' i = some (some x) → J.go i L'.H ∧ ∀ v H', J.yld i L'.H v H' → ∃ L'', L''.H = H' ∧ Stp L' L'' ∧ Ok W L'' S' ∧ RepD W L''.Z L''.H v x
  stop : ∀ L' S' i, Stp L L' → Ok W L' S' → nth w S' i = some none → J.stop i L'.H
section
variable {W : Wd} {L : Lo} {S : Pk.St} {K : PySem.W.Frag}
theorem Ok.refl (o : Ok W L S) : Stp L L := Stp.refl o.mz
theorem Wk.seq {J : L2.It} {vs : List V} {ds : List D} (hr : RepL W L.Z L.H vs ds) (hgo : ∀ L' S' (i : Nat), Stp L L' → Ok W L' S' → i < vs.length → J.go i L'.H) (hst : ∀ L' S' (i : Nat), Stp L L' → Ok W L' S' → vs.length ≤ i → J.stop i L'.H)
    (hy : ∀ L' S' i v H', Stp L L' → Ok W L' S' → J.yld i L'.H v H' → H' = L'.H ∧ vs[i]? = some v) : Wk W L J (.row ds) := by
  refine ⟨fun L' S' i x s o e => ?_, fun L' S' i s o e => ?_⟩
  · have e : ds[i]? = some x := Option.some.inj e
    obtain ⟨v0, e0, r0⟩ := hr.get e
    refine ⟨hgo L' S' i s o (List.getElem?_eq_some_iff.mp e0).1, fun v H' y => ?_⟩
    obtain ⟨e1, e2⟩ := hy L' S' i v H' s o y
    rw [e0] at e2
    cases e2
    subst e1
    exact ⟨L', rfl, o.refl, o, r0.mono s.keeps⟩
  · have e : ds[i]? = none := Option.some.inj e
    have := List.getElem?_eq_none_iff.mp e
    exact hst L' S' i s o (by rw [hr.length]; exact this)
theorem Wk.list {a : Addr} {vs : List V} {ds : List D} (ha : L.H a = some (.lst vs)) (n : a ∉ L.m) (hr : RepL W L.Z L.H vs ds) : Wk W L (Itl K a) (.row ds) := by
  have at' : ∀ {L'}, Stp L L' → SqL K L'.H a vs := fun s => SqL.of (s.kp a _ n ha)
  refine Wk.seq hr (fun L' S' i s o hi => ⟨vs, vs[i], at' s, List.getElem?_eq_getElem hi⟩) (fun L' S' i s o hi => ⟨vs, at' s, hi⟩) fun L' S' i v H' s o y => ⟨y.1, y.2 vs (at' s)⟩
theorem Wk.tup {a : Addr} {vs : List V} {ds : List D} (hW : W.K = K) (ha : SqT W.K L.H a vs) (hr : RepL W L.Z L.H vs ds) : Wk W L (Itt K a) (.row ds) := by
  subst hW
  have at' : ∀ {L'}, Stp L L' → SqT W.K L'.H a vs := fun s => SqT_keep s.tp ha
  refine Wk.seq hr (fun L' S' i s o hi => ⟨vs, vs[i], at' s, List.getElem?_eq_getElem hi⟩) (fun L' S' i s o hi => ⟨vs, at' s, hi⟩) fun L' S' i v H' s o y => ⟨y.1, y.2 vs (at' s)⟩
theorem Wk.str {z : Str} : Wk W L (Its z) (.row (signs z)) := by
  have hl : (signs z).length = z.cps.size := by unfold signs; simp
  refine ⟨fun L' S' i x s o e => ?_, fun L' S' i s o e => ?_⟩
  · have e : (signs z)[i]? = some x := Option.some.inj e
    have hi : i < z.cps.size := by rw [← hl]; exact (List.getElem?_eq_some_iff.mp e).1
    refine ⟨hi, fun v H' y => ?_⟩
    obtain ⟨e1, c, e2, e3⟩ := y
    subst e1 e3
    refine ⟨L', rfl, o.refl, o, ?_⟩
    have : x = .str ⟨#[c]⟩ := by
      unfold signs at e
      rw [List.getElem?_map, Array.getElem?_toList, e2] at e
      exact (Option.some.inj e).symm
    rw [this]
    exact .str _
  · have e : (signs z)[i]? = none := Option.some.inj e
    have := List.getElem?_eq_none_iff.mp e
    rw [hl] at this
    exact this
theorem Wk.range {lo : Int} {n : Nat} : Wk W L (Itr lo n) (.row (rangeD lo n)) := by
  refine ⟨fun L' S' i x s o e => ?_, fun L' S' i s o e => ?_⟩
  · have e : (rangeD lo n)[i]? = some x := Option.some.inj e
    have hi : i < n := by
      have := (List.getElem?_eq_some_iff.mp e).1
      unfold rangeD at this
      simpa using this
    refine ⟨hi, fun v H' y => ?_⟩
    obtain ⟨e1, e2⟩ := y
    subst e1 e2
    refine ⟨L', rfl, o.refl, o, ?_⟩
    have : x = .int (lo + i) := by
      unfold rangeD at e
      rw [List.getElem?_map, List.getElem?_range hi] at e
      exact (Option.some.inj e).symm
    rw [this]
    exact .int _
  · have e : (rangeD lo n)[i]? = none := Option.some.inj e
    have := List.getElem?_eq_none_iff.mp e
    unfold rangeD at this
    show n ≤ i
    simpa using this
theorem Wk.cell {a : Addr} {k : Nat} (ea : L.m[k]? = some a) : Wk W L (Itl K a) (.cell k) := by
  have look : ∀ {L' S'} {i : Nat} {o : Option D}, Stp L L' → Ok W L' S' → nth (.cell k) S' i = some o → ∃ ds vs, S'.cells[k]? = some (.lst ds) ∧ ds[i]? = o ∧ L'.H a = some (.lst vs) ∧ RepL W L'.Z L'.H vs ds := by
    intro L' S' i o s ok e
    unfold nth at e
    dsimp only at e
    split at e
    · rename_i ds ec
      obtain ⟨vs, h1, h2⟩ := ok.cel k a _ (s.get ea) ec
      exact ⟨ds, vs, ec, Option.some.inj e, h1, h2⟩
    · cases e
  refine ⟨fun L' S' i x s o e => ?_, fun L' S' i s o e => ?_⟩
  · obtain ⟨ds, vs, ec, ed, h1, h2⟩ := look s o e
    obtain ⟨v0, e0, r0⟩ := h2.get ed
    refine ⟨⟨vs, v0, SqL.of h1, e0⟩, fun v H' y => ?_⟩
    obtain ⟨e1, e2⟩ := y
    have := e2 vs (SqL.of h1)
    rw [e0] at this
    cases this
    subst e1
    exact ⟨L', rfl, o.refl, o, r0⟩
  · obtain ⟨ds, vs, ec, ed, h1, h2⟩ := look s o e
    exact ⟨vs, SqL.of h1, by rw [h2.length]; exact List.getElem?_eq_none_iff.mp ed⟩
theorem zipD_get : ∀ {xs ys : List D} {i : Nat} {x : D}, (zipD xs ys)[i]? = some x → ∃ a b, xs[i]? = some a ∧ ys[i]? = some b ∧ x = .tup [a, b]
  | [], _, _, _, e => by unfold zipD at e; simp at e
  | _ :: _, [], _, _, e => by unfold zipD at e; simp at e
  | a :: xs, b :: ys, 0, x, e => by
    unfold zipD at e
    simp at e
    exact ⟨a, b, rfl, rfl, e.symm⟩
  | a :: xs, b :: ys, i + 1, x, e => by
    unfold zipD at e
    obtain ⟨a', b', h⟩ := zipD_get (i := i) (by simpa using e)
    exact ⟨a', b', by simpa using h⟩
theorem zipD_none : ∀ {xs ys : List D} {i : Nat}, (zipD xs ys)[i]? = none → xs.length ≤ i ∨ ys.length ≤ i
  | [], _, _, _ => .inl (by simp)
  | _ :: _, [], _, _ => .inr (by simp)
  | a :: xs, b :: ys, 0, e => by
    unfold zipD at e
    simp at e
  | a :: xs, b :: ys, i + 1, e => by
    unfold zipD at e
    have := zipD_none (xs := xs) (ys := ys) (i := i) (by simpa using e)
    simpa using this
theorem Ok.pair {L' : Lo} {x y : V} {dx dy : D} {T : Addr} (o : Ok W L' S) (nT : L'.H T = none) (rx : RepD W L'.Z L'.H x dx) (ry : RepD W L'.Z L'.H y dy) :
    ∃ L'', L''.H = L2.upd L'.H T (.tup [x, y]) ∧ Stp L' L'' ∧ Ok W L'' S ∧ RepD W L''.Z L''.H (.ref T) (.tup [dx, dy]) := by
  have sm := Same.upd (o := .tup [x, y]) nT
  exact ⟨⟨L'.Z, L'.m, _⟩, rfl, Stp.same o sm, o.same sm, .tup (SqT.of upd_same) (.cons (rx.mono (Keeps.same sm)) (.cons (ry.mono (Keeps.same sm)) .nil))⟩
theorem Wk.zipL {a b : Addr} {vs us : List V} {xs ys : List D} (ha : L.H a = some (.lst vs)) (na : a ∉ L.m) (hb : L.H b = some (.lst us)) (nb : b ∉ L.m) (hx : RepL W L.Z L.H vs xs) (hy : RepL W L.Z L.H us ys) : Wk W L (Itz K a b) (.row (zipD xs ys)) := by
  have at1 : ∀ {L'}, Stp L L' → SqL K L'.H a vs := fun s => SqL.of (s.kp a _ na ha)
  have at2 : ∀ {L'}, Stp L L' → SqL K L'.H b us := fun s => SqL.of (s.kp b _ nb hb)
  refine ⟨fun L' S' i x s o e => ?_, fun L' S' i s o e => ?_⟩
  · obtain ⟨p, q, e1, e2, e3⟩ := zipD_get (Option.some.inj e)
    obtain ⟨v, ev, rv⟩ := hx.get e1
    obtain ⟨u, eu, ru⟩ := hy.get e2
    refine ⟨⟨vs, us, v, u, at1 s, at2 s, ev, eu⟩, fun w H' y => ?_⟩
    obtain ⟨T, x', y', e4, nT, e5, e6, e7⟩ := y
    have h6 := e6 vs (at1 s)
    have h7 := e7 us (at2 s)
    rw [ev] at h6
    rw [eu] at h7
    cases h6
    cases h7
    subst e4 e5 e3
    exact o.pair nT (rv.mono s.keeps) (ru.mono s.keeps)
  · refine ⟨vs, us, at1 s, at2 s, ?_⟩
    rw [hx.length, hy.length]
    exact zipD_none (Option.some.inj e)
theorem Wk.zipT {a b : Addr} {vs us : List V} {xs ys : List D} (hW : W.K = K) (ha : SqT W.K L.H a vs) (hb : SqT W.K L.H b us) (hx : RepL W L.Z L.H vs xs) (hy : RepL W L.Z L.H us ys) : Wk W L (RZ.ItzT K a b) (.row (zipD xs ys)) := by
  subst hW
  have at1 : ∀ {L'}, Stp L L' → SqT W.K L'.H a vs := fun s => SqT_keep s.tp ha
  have at2 : ∀ {L'}, Stp L L' → SqT W.K L'.H b us := fun s => SqT_keep s.tp hb
  refine ⟨fun L' S' i x s o e => ?_, fun L' S' i s o e => ?_⟩
  · obtain ⟨p, q, e1, e2, e3⟩ := zipD_get (Option.some.inj e)
    obtain ⟨v, ev, rv⟩ := hx.get e1
    obtain ⟨u, eu, ru⟩ := hy.get e2
    refine ⟨⟨vs, us, v, u, at1 s, at2 s, ev, eu⟩, fun w H' y => ?_⟩
    obtain ⟨T, x', y', e4, nT, e5, e6, e7⟩ := y
    have h6 := e6 vs (at1 s)
    have h7 := e7 us (at2 s)
    rw [ev] at h6
    rw [eu] at h7
    cases h6
    cases h7
    subst e4 e5 e3
    exact o.pair nT (rv.mono s.keeps) (ru.mono s.keeps)
  · refine ⟨vs, us, at1 s, at2 s, ?_⟩
    rw [hx.length, hy.length]
    exact zipD_none (Option.some.inj e)
end

/-! ### readings -/
def RdI (W : Wd) (m : Pk.Env → M Walk) : TI := fun σ H R => ∃ L ρ S, L.H = H ∧ Ok W L S ∧ RepE W L σ ρ ∧ Out W EF L S (m ρ S) fun w S' L' => ∀ J, Wk W L' J w → R J L'.H
theorem PI.imp {X : Cx} {tg e : Expr} {t t' : TI} (h : PI X tg e t) (i : ∀ σ H Q, t' σ H Q → t σ H Q) : PI X tg e t' := ⟨fun pins s σ H Q I q => h.run pins s σ H Q I (i σ H Q q)⟩
section
variable {X : Cx} {W : Wd} {tg : Expr}
/-- a list, a tuple, a text -/
def iAny (K : PySem.W.Frag) (tl : TE) : TI := fun σ H R => tl σ H fun x H1 => (∃ a, x = .ref a ∧ (∃ xs, SqL K H1 a xs) ∧ R (Itl K a) H1) ∨ (∃ a, x = .ref a ∧ (∃ xs, SqT K H1 a xs) ∧ R (Itt K a) H1) ∨ ∃ z, x = .str z ∧ R (Its z) H1
theorem pi_any {l : Expr} {tl : TE} (hl : PE X l tl) : PI X tg l (iAny X.K tl) := by
  refine ⟨fun pins s σ H R I h => thn (hl.run pins s σ H _ I h) ?_⟩
  rintro v s1 ⟨x, H1, I1, r1, q1⟩
  have fresh : ∀ b ∈ [s1.heap.objs.size], FpOk X pins H1 b := fun b hb => by
    rw [List.mem_singleton.mp hb]
    exact I1.fpOk (Nat.le_refl _) (I1.hok.fresh (Nat.le_refl _))
  rcases q1 with ⟨a, e, ⟨xs, hq⟩, q⟩ | ⟨a, e, ⟨xs, hq⟩, q⟩ | ⟨z, e, q⟩
  · subst e
    cases r1
    obtain ⟨its, rv, p, _⟩ := I1.list hq
    exact wpAny_pyIter_list p.isList ⟨_, [s1.heap.objs.size], _, _, H1, rfl, I1.kept (t' := s1.toks) (fun b o => Heap.get?_push_of_some _), turn_list a _, ⟨_, Heap.get?_push_size _ rfl, rfl, rfl⟩, fresh, q⟩
  · subst e
    cases r1
    obtain ⟨its, rv, p, _⟩ := I1.tuple hq
    exact wpAny_pyIter_tuple (show s1.heap.IsTuple a its.toArray from p) ⟨_, [s1.heap.objs.size], _, _, H1, rfl, I1.kept (t' := s1.toks) (fun b o => Heap.get?_push_of_some _), turn_tuple a _, ⟨_, Heap.get?_push_size _ rfl, rfl, rfl⟩, fresh, q⟩
  · subst e
    obtain ⟨t, rfl⟩ := r1
    cases ha : z.cps.all (· < 128) with
    | false => exact wpAny_pyIter_wide ha (pi_one (tk := s1.toks) I1 _ (turn_str _ z t _ (.inr rfl)) ⟨_, Heap.get?_push_size _ rfl, rfl, rfl⟩ q)
    | true => exact wpAny_pyIter_ascii ha (pi_one (tk := s1.toks) I1 _ (turn_str _ z t _ (.inl rfl)) ⟨_, Heap.get?_push_size _ rfl, rfl, rfl⟩ q)
end
end Pk
end
section
set_option Elab.async false
set_option linter.all false
set_option maxRecDepth 100000
/-! Cells written, targets, comprehensions. -/
namespace Pk
open PySem L2 PyProof.Rows

section
variable {W : Wd} {L0 L L' : Lo} {S S' : Pk.St}
/-! ### a cell's object written anew -/
def Lo.wr (L : Lo) (a : Addr) (u : HO) : Lo := ⟨L.Z, L.m, L2.upd L.H a u⟩
theorem Stp.wr {a : Addr} {u : HO} (o : Ok W L S) (ha : a ∈ L.m) : Stp L (L.wr a u) := by
  refine ⟨fun _ z => z, fun _ z n => (n z).elim, ⟨[], by simp [Lo.wr]⟩, fun _ z n => (n z).elim, o.mz, o.mz, fun b v n e => ?_, fun b v e q => ?_⟩
  · show L2.upd L.H a u b = some v
    rw [upd_ne (fun z => n (by first | (rw [← z]; exact ha) | (rw [z]; exact ha)))]
    exact e
  · show L2.upd L.H a u b = some v
    rw [upd_ne (fun z => ?_)]
    · exact e
    · have hb : b = a := by first | exact z | exact z.symm
      subst hb
      obtain ⟨w, e1, e2⟩ := o.zH b (o.mz b ha)
      rw [e] at e1
      cases e1
      exact e2 q
theorem keeps_wr {a : Addr} {u : HO} (o : Ok W L S) (ha : a ∈ L.m) : Keeps L.Z L.Z L.H (L2.upd L.H a u) := (Stp.wr (u := u) o ha).keeps
theorem Ok.wr {a : Addr} {k : Nat} {u : HO} {ob : MObj} (o : Ok W L S) (ea : L.m[k]? = some a) (hu : ¬ Still u) (hr : RepO W (L.wr a u) a ob) : Ok W (L.wr a u) { S with cells := S.cells.set k ob } := by
  have ha : a ∈ L.m := List.mem_of_getElem? ea
  have st := Stp.wr (u := u) o ha
  refine ⟨fun b z => ?_, o.mz, o.nd, by show L.m.length = (S.cells.set k ob).length; rw [List.length_set]; exact o.len, fun i b ob' e1 e2 => ?_⟩
  · by_cases h : b = a
    · subst h
      exact ⟨u, upd_same, hu⟩
    · obtain ⟨w, e, q⟩ := o.zH b z
      exact ⟨w, by show L2.upd L.H a u b = some w; rw [upd_ne (by first | exact h | exact fun z => h z.symm)]; exact e, q⟩
  · have e1 : L.m[i]? = some b := e1
    have e2 : (S.cells.set k ob)[i]? = some ob' := e2
    by_cases h : k = i
    · subst h
      rw [e1] at ea
      cases ea
      have hk : k < S.cells.length := by
        have := (List.getElem?_eq_some_iff.mp e2).1
        rwa [List.length_set] at this
      rw [List.getElem?_set_self hk] at e2
      cases e2
      exact hr
    · rw [List.getElem?_set_ne h] at e2
      have hb : b ≠ a := fun q => by
        subst q
        have h1 := List.getElem?_eq_some_iff.mp e1
        have h2 := List.getElem?_eq_some_iff.mp ea
        exact h ((List.getElem_inj o.nd).mp (h2.2.trans h1.2.symm))
      have ro := o.cel i b ob' e1 e2
      have at' : ∀ {v}, L.H b = some v → L2.upd L.H a u b = some v := fun e => by
        rw [upd_ne (by first | exact hb | exact fun z => hb z.symm)]
        exact e
      cases ob' with
      | lst ds =>
        obtain ⟨vs, e, r⟩ := ro
        exact ⟨vs, at' e, r.mono st.keeps⟩
      | dic kvs =>
        obtain ⟨vs, e, r⟩ := ro
        exact ⟨vs, at' e, r.mono st.keeps⟩
      | ins c fs =>
        obtain ⟨C, dx, gs, hc, e, r⟩ := ro
        exact ⟨C, dx, gs, hc, at' e, r.step st⟩
theorem SS.wr {k : Nat} {ob : MObj} (h : ∀ n, RefsLt n ob) : SS S { S with cells := S.cells.set k ob } := by
  refine ⟨by show _ ≤ (S.cells.set k ob).length; rw [List.length_set]; exact Nat.le_refl _, [], rfl, fun n i hn hi _ hr o e => ?_⟩
  have e : (S.cells.set k ob)[i]? = some o := e
  by_cases q : k = i
  · subst q
    have hk : k < S.cells.length := by
      have := (List.getElem?_eq_some_iff.mp e).1
      rwa [List.length_set] at this
    rw [List.getElem?_set_self hk] at e
    cases e
    exact h n
  · rw [List.getElem?_set_ne q] at e
    exact hr o e
end

/-! ### targets -/
/-- only these slots are other ones -/
structure Only (is : List Nat) (σ σ' : L2.St) : Prop where
  len : σ'.length = σ.length
  same : ∀ j, j ∉ is → σ'[j]? = σ[j]?
theorem Only.refl {is : List Nat} (σ : L2.St) : Only is σ σ := ⟨rfl, fun _ _ => rfl⟩
theorem Only.trans {is js : List Nat} {a b c : L2.St} (h : Only is a b) (g : Only js b c) : Only (is ++ js) a c :=
  ⟨g.len.trans h.len, fun j n => (g.same j fun q => n (List.mem_append_right _ q)).trans (h.same j fun q => n (List.mem_append_left _ q))⟩
theorem wipe_get {σ : L2.St} : ∀ {vs : List Nat} {j : Nat}, (L2.wipe σ vs)[j]? = if j ∈ vs ∧ j < σ.length then some none else σ[j]?
  | [], j => by simp [L2.wipe]
  | v :: vs, j => by
    unfold L2.wipe
    by_cases h : v = j
    · subst h
      by_cases hv : v < σ.length
      · rw [List.getElem?_set_self (by rw [L2.wipe_length]; exact hv), if_pos ⟨List.mem_cons_self .., hv⟩]
      · rw [List.getElem?_eq_none (by rw [List.length_set, L2.wipe_length]; omega), if_neg (fun q => hv q.2), List.getElem?_eq_none (by omega)]
    · rw [List.getElem?_set_ne h, wipe_get]
      have : (j ∈ v :: vs) ↔ j ∈ vs := by simp [Ne.symm h]
      simp only [this]
theorem Only.wipe {is vs : List Nat} {σ σ' : L2.St} (h : Only is σ σ') (hs : ∀ j ∈ is, j ∈ vs) : L2.wipe σ' vs = L2.wipe σ vs := by
  refine List.ext_getElem? fun j => ?_
  rw [wipe_get, wipe_get, h.len]
  by_cases q : j ∈ vs ∧ j < σ.length
  · rw [if_pos q, if_pos q]
  · rw [if_neg q, if_neg q]
    by_cases hj : j < σ.length
    · exact h.same j fun z => q ⟨hs j z, hj⟩
    · rw [List.getElem?_eq_none (by rw [h.len]; omega), List.getElem?_eq_none (by omega)]
def RdG (W : Wd) (t : Tg) : TG := fun v σ H Q => ∃ L ρ S d ρ', L.H = H ∧ Ok W L S ∧ RepE W L σ ρ ∧ RepD W L.Z L.H v d ∧ setTg t d ρ = some ρ' ∧ ∀ σ', RepE W L σ' ρ' → Only (tgSlots t) σ σ' → Q σ' H
def RdGs (W : Wd) (ts : List Tg) : TGs := fun vs σ H Q => ∃ L ρ S ds ρ', L.H = H ∧ Ok W L S ∧ RepE W L σ ρ ∧ RepL W L.Z L.H vs ds ∧ setTgL ts ds ρ = some ρ' ∧ ∀ σ', RepE W L σ' ρ' → Only (tgSlotsL ts) σ σ' → Q σ' H
theorem PG.imp {X : Cx} {e : Expr} {t t' : TG} (h : PG X e t) (i : ∀ v σ H Q, t' v σ H Q → t v σ H Q) : PG X e t' := ⟨fun pins s σ H v u Q I r q => h.run pins s σ H v u Q I r (i v σ H Q q)⟩
theorem PGs.imp {X : Cx} {e : List Expr} {t t' : TGs} (h : PGs X e t) (i : ∀ v σ H Q, t' v σ H Q → t v σ H Q) : PGs X e t' := ⟨fun pins s σ H v u Q I r q => h.run pins s σ H v u Q I r (i v σ H Q q)⟩
/-- the block's or the def's own names -/
structure Own (X : Cx) (rsc : Scope) : Prop where
  own : ∀ x, rsc.names.lookup x = some .local ∨ rsc.names.lookup x = some .cell → Loc X.env.scope x ∧ (X.fn x = true ∨ X.env.scope.names.lookup x = some .local)
theorem ownSlot_of {N : List Str} {rsc : Scope} {x : Str} {i : Nat} (h : ownSlot N rsc x = some i) : (rsc.names.lookup x = some .local ∨ rsc.names.lookup x = some .cell) ∧ N[i]? = some x := by
  have pl : ∀ {i}, placeOf N x = some i → N[i]? = some x := fun {i} e => by
    unfold placeOf at e
    obtain ⟨hi, h1, _⟩ := List.findIdx?_eq_some_iff_getElem.mp e
    rw [List.getElem?_eq_getElem hi, eq_of_beq h1]
  unfold ownSlot at h
  split at h
  · rename_i e
    exact ⟨.inl e, pl h⟩
  · rename_i e
    exact ⟨.inr e, pl h⟩
  · cases h
section
variable {X : Cx} {W : Wd} {N : List Str} {rsc : Scope}
theorem seqO_cons {α : Type} {a : Option α} {r : List (Option α)} {l : List α} (h : seqO (a :: r) = some l) : ∃ b l', a = some b ∧ seqO r = some l' ∧ l = b :: l' := by
  cases a with
  | none => cases h
  | some b =>
    obtain ⟨l', e1, e2⟩ := Option.map_eq_some_iff.mp (show (seqO r).map (b :: ·) = some l from h)
    exact ⟨b, l', rfl, e1, e2.symm⟩
theorem tg_plain {n : Nat} {e : Expr} {t : Tg} (h : trTg N rsc n e = some t) (es : List Expr) (env : PySem.Env) : assignEach (e :: es) env = (false, assign e env) :: assignEach es env := by
  cases n with
  | zero => unfold trTg at h; cases h
  | succ n => cases e <;> first | rfl | (unfold trTg at h; cases h)
mutual
theorem pg_of (hX : X.N = N) (nd : N.Nodup) (hc : X.calm = true) (ho : Own X rsc) (hW : W.K = X.K) : ∀ (n : Nat) {e : Expr} {t : Tg}, trTg N rsc n e = some t → PG X e (RdG W t)
  | 0, e, t, h => by unfold trTg at h; cases h
  | n + 1, .Name x p, t, h => by
    unfold trTg at h
    obtain ⟨i, e1, e2⟩ := Option.map_eq_some_iff.mp h
    subst e2
    obtain ⟨k, hi⟩ := ownSlot_of e1
    obtain ⟨hl, hf⟩ := ho.own x k
    refine PG.imp (pg_name (by rw [hX]; exact nd) (by rw [hX]; exact hi) hl hf) fun v σ H Q q => ?_
    obtain ⟨L, ρ, S, d, ρ', eH, hL, hE, r, es, q⟩ := q
    unfold setTg at es
    obtain ⟨hlt, es⟩ := ite_some es
    subst es
    refine q _ (hE.set r) ⟨by rw [List.length_set], fun j hj => ?_⟩
    rw [List.getElem?_set_ne (fun z => hj (by rw [← z]; unfold tgSlots; simp))]
  | n + 1, .Tuple es k p, t, h => by
    unfold trTg at h
    obtain ⟨ts, e1, e2⟩ := Option.map_eq_some_iff.mp h
    subst e2
    obtain ⟨hp, hn, hst⟩ := pgs_of hX nd hc ho hW n e1
    refine PG.imp (pg_tup (n := ts.length) hc hp hn hst) fun v σ H Q q => ?_
    obtain ⟨L, ρ, S, d, ρ', eH, hL, hE, r, es, q⟩ := q
    subst eH
    cases d with
    | tup ds =>
      cases r with
      | tup h1 h2 =>
        have hlen : ∀ {ts : List Tg} {ds : List D} {ρ ρ' : Pk.Env}, setTgL ts ds ρ = some ρ' → ts.length = ds.length := by
          intro ts
          induction ts with
          | nil => intro ds ρ ρ' e; cases ds with
            | nil => rfl
            | cons _ _ => unfold setTgL at e; cases e
          | cons t ts ih => intro ds ρ ρ' e; cases ds with
            | nil => unfold setTgL at e; cases e
            | cons d ds =>
              unfold setTgL at e
              split at e
              · rw [List.length_cons, List.length_cons, ih e]
              · cases e
        unfold setTg at es
        exact ⟨_, _, rfl, hW ▸ h1, by rw [h2.length, hlen es], L, ρ, S, ds, ρ', rfl, hL, hE, h2, es, fun σ' hE' on => q σ' hE' (by unfold tgSlots; exact on)⟩
    | _ => unfold setTg at es; cases es
  | n + 1, .Constant _ _ _, _, h | n + 1, .List _ _, _, h => by unfold trTg at h; cases h
theorem pgs_of (hX : X.N = N) (nd : N.Nodup) (hc : X.calm = true) (ho : Own X rsc) (hW : W.K = X.K) : ∀ (n : Nat) {es : List Expr} {ts : List Tg}, seqO (es.map (trTg N rsc n)) = some ts → PGs X es (RdGs W ts) ∧ (assignEach es X.env).length = ts.length ∧ (assignEach es X.env).findIdx? (·.1) = none
  | n, [], ts, h => by
    cases h
    refine ⟨PGs.imp pgs_nil fun vs σ H Q q => ?_, rfl, rfl⟩
    obtain ⟨L, ρ, S, ds, ρ', eH, hL, hE, r, es, q⟩ := q
    cases ds with
    | nil =>
      cases r
      unfold setTgL at es
      cases es
      exact ⟨rfl, q σ hE (Only.refl σ)⟩
    | cons d ds => unfold setTgL at es; cases es
  | n, e :: es, ts, h => by
    obtain ⟨t, ts', e1, e2, e3⟩ := seqO_cons h
    subst e3
    obtain ⟨hp, hn, hst⟩ := pgs_of hX nd hc ho hW n e2
    have hpl := tg_plain e1 es X.env
    refine ⟨PGs.imp (pgs_cons (pg_of hX nd hc ho hW n e1) hp (by rw [hpl]; rfl)) fun vs σ H Q q => ?_, by rw [hpl, List.length_cons, hn, List.length_cons], by rw [hpl, List.findIdx?_cons]; simp [hst]⟩
    obtain ⟨L, ρ, S, ds, ρ', eH, hL, hE, r, es, q⟩ := q
    cases ds with
    | nil => unfold setTgL at es; cases es
    | cons d ds =>
      cases r with
      | cons r1 r2 =>
        unfold setTgL at es
        split at es
        · rename_i ρ1 e4
          refine ⟨_, _, rfl, L, ρ, S, d, ρ1, eH, hL, hE, r1, e4, fun σ1 hE1 on1 => ?_⟩
          exact ⟨L, ρ1, S, ds, ρ', eH, hL, hE1, r2, es, fun σ2 hE2 on2 => q σ2 hE2 (by unfold tgSlotsL; exact on1.trans on2)⟩
        · cases es
end
end
end Pk
end
section
set_option Elab.async false
set_option linter.all false
set_option maxRecDepth 100000
/-! Comprehensions. -/
namespace Pk
open PySem L2 PyProof.Rows

section
variable {W : Wd} {L0 L L' L1 : Lo} {S S' S1 : Pk.St}
theorem wipe_wipe {σ : L2.St} {vs : List Nat} : L2.wipe (L2.wipe σ vs) vs = L2.wipe σ vs := by
  refine List.ext_getElem? fun j => ?_
  rw [wipe_get, wipe_get, L2.wipe_length]
  split <;> rfl
theorem RepE.wipe {σ : L2.St} {ρ : Pk.Env} (h : RepE W L σ ρ) : ∀ vs : List Nat, RepE W L (L2.wipe σ vs) (wipeE ρ vs)
  | [] => h
  | v :: vs => by
    have ih := RepE.wipe h vs
    unfold L2.wipe wipeE
    refine ⟨by rw [List.length_set, List.length_set, ih.len], fun i x e => ?_⟩
    by_cases q : v = i
    · subst q
      have hv : v < (wipeE ρ vs).length := by
        have := (List.getElem?_eq_some_iff.mp e).1
        rwa [List.length_set] at this
      rw [List.getElem?_set_self hv] at e
      cases e
    · rw [List.getElem?_set_ne q] at e ⊢
      exact ih.var i x e
/-- the end of a comprehension: its list alone is left -/
theorem comp_end {D : Addr} {P : RV → Pk.St → Lo → Prop} {u : HO} (hL : Ok W L S) (s1 : Stp L L1) (o1 : Ok W L1 S1) (q1 : SS S S1) (nD : L1.H D = none) (s2 : Stp (L1.plus D (L2.upd L1.H D u)) L') (o' : Ok W L' S')
    (q' : SS { S1 with cells := S1.cells ++ [.lst []] } S') (h : Out W EF L S (compEnd S1.cells.length S1.esc.length S') P) : ∃ L3 S3 acc, L3.H = L'.H ∧ RepR W L L3 (.ref D) (tmpL acc) ∧ P (tmpL acc) S3 L3 := by
  have nz : ¬ L1.Z D := fun z => by
    obtain ⟨w, e, _⟩ := o1.zH D z
    rw [nD] at e
    cases e
  have sp : Stp L1 (L1.plus D (L2.upd L1.H D u)) := Stp.plus o1 (Same.upd nD) nD
  have hg : L'.m[S1.cells.length]? = some D := s2.get (by show (L1.m ++ [D])[S1.cells.length]? = some D; rw [← o1.len]; simp)
  unfold compEnd at h
  split at h
  · rename_i acc ec ed
    split at h
    · rename_i he
      obtain ⟨r, em⟩ := s2.mm
      have ht : L'.m.take S1.cells.length = L1.m := by
        rw [em, ← o1.len]
        show ((L1.m ++ [D]) ++ r).take L1.m.length = L1.m
        rw [List.append_assoc, List.take_left]
      have hn : ∀ k ob, k < S1.cells.length → S'.cells[k]? = some ob → RefsLt S1.cells.length ob := by
        intro k ob hk eo
        obtain ⟨l, e, he', hh⟩ := q'
        have e0 : e = [] := by
          have h2 : S'.esc.length = e.length + S1.esc.length := by rw [he', List.length_append]
          exact List.eq_nil_of_length_eq_zero (by omega)
        refine hh S1.cells.length k (by show _ ≤ (S1.cells ++ [MObj.lst []]).length; rw [List.length_append]; omega) hk (by rw [e0]; exact List.not_mem_nil) (fun o eo => ?_) ob eo
        have eo : (S1.cells ++ [MObj.lst []])[k]? = some o := eo
        rw [List.getElem?_append_left hk] at eo
        have hk2 : k < L1.m.length := by rw [o1.len]; exact hk
        have := (o1.cel k _ o (List.getElem?_eq_getElem hk2) eo).refs
        rwa [o1.len] at this
      have o3 : Ok W (L'.cut S1.cells.length fun _ => False) ⟨S'.cells.take S1.cells.length, S'.esc⟩ := o'.cut hn fun _ _ => id
      have s3 : Stp L (L'.cut S1.cells.length fun _ => False) := (s1.trans (sp.trans s2)).cut (by have := q1.le; rw [hL.len]; exact this) (fun _ _ => id) fun _ _ => id
      refine ⟨L'.cut S1.cells.length fun _ => False, _, acc, rfl, ⟨D, rfl, ⟨o'.mz D (List.mem_of_getElem? hg), id⟩, fun z => nz (s1.zz D z), fun z => ?_, (o'.cel _ D _ hg ec).cut trivial⟩, h _ s3 o3 ((q1.trans ((SS.push S1 _).trans q')).cut q1.le)⟩
      have z : D ∈ L'.m.take S1.cells.length := z
      rw [ht] at z
      exact nz (o1.mz D z)
    · exact h.elim
  · exact h.elim
/-- what is left of a comprehension's turns -/
def restW (step : D → M (Option D)) (n : Nat) (w : Walk) (m i : Nat) : M Unit := match w with
  | .row ds => compRow step n (ds.drop i)
  | .cell k => compCell step n k m i
def meas (w : Walk) (m i : Nat) : Prop := match w with
  | .row ds => ds.length ≤ m + i
  | .cell _ => True
theorem drop_at {α : Type} {ds : List α} {i : Nat} {x : α} (h : ds[i]? = some x) : ds.drop i = x :: ds.drop (i + 1) := by
  have hi := (List.getElem?_eq_some_iff.mp h)
  rw [List.drop_eq_getElem_cons hi.1, hi.2]
theorem rest_turn {step : D → M (Option D)} {n : Nat} {w : Walk} {m i : Nat} {P : Unit → Pk.St → Lo → Prop} (hm : meas w m i) (h : Out W EF L S (restW step n w m i S') P) :
    (nth w S' i = some none ∧ Out W EF L S (ret () S') P) ∨ ∃ x m', m' < m ∧ nth w S' i = some (some x) ∧ meas w m' (i + 1) ∧ Out W EF L S (bnd (step x) (fun o => bnd (putC n o) fun _ => restW step n w m' (i + 1)) S') P := by
  cases w with
  | row ds =>
    have hm : ds.length ≤ m + i := hm
    have h : Out W EF L S (compRow step n (ds.drop i) S') P := h
    cases e : ds[i]? with
    | none =>
      refine .inl ⟨by show some ds[i]? = _; rw [e], ?_⟩
      rw [List.drop_of_length_le (List.getElem?_eq_none_iff.mp e)] at h
      exact h
    | some x =>
      have hi := (List.getElem?_eq_some_iff.mp e).1
      refine .inr ⟨x, m - 1, by omega, by show some ds[i]? = _; rw [e], show ds.length ≤ m - 1 + (i + 1) by omega, ?_⟩
      rw [drop_at e] at h
      exact h
  | cell k =>
    have h : Out W EF L S (compCell step n k m i S') P := h
    cases m with
    | zero => exact h.elim
    | succ m =>
      unfold compCell bnd cellAt at h
      cases ec : S'.cells[k]? with
      | none => simp only [ec] at h; exact h.elim
      | some ob =>
        cases ob with
        | lst ds =>
          simp only [ec] at h
          cases e : ds[i]? with
          | none =>
            simp only [e] at h
            exact .inl ⟨by unfold nth; simp only [ec, e], h⟩
          | some x =>
            simp only [e] at h
            exact .inr ⟨x, m, Nat.lt_succ_self m, by unfold nth; simp only [ec, e], trivial, h⟩
        | dic _ => simp only [ec] at h; exact h.elim
        | ins _ _ => simp only [ec] at h; exact h.elim
/-- an expression's reading from a state further on, its end seen from the first place -/
theorem RdE.at {σ : L2.St} {ρ : Pk.Env} {m : Pk.Env → M RV} {β : Type} {f : RV → M β} {P : β → Pk.St → Lo → Prop} {Q : VK} (s : Stp L L') (o : Ok W L' S') (q : SS S S') (hE : RepE W L' σ ρ) (h : Out W EF L S (bnd (m ρ) f S') P)
    (k : ∀ v rv S1 L1, Stp L' L1 → Ok W L1 S1 → SS S' S1 → RepR W L' L1 v rv → Out W EF L S (f rv S1) P → Q v L1.H) : RdE W WF m σ L'.H Q :=
  ⟨L', ρ, S', rfl, o, hE, (Out.later s q h.bnd1).imp fun rv S1 L1 s1 o1 q1 h1 v r => k v rv S1 L1 s1 o1 q1 r h1⟩
/-- a comprehension's turns -/
theorem lc_ok {X : Cx} {σ : L2.St} {H : Hp} {Q : VK} {tx : Tx} {me mc : ME} {mt : Tg} {mi : Pk.It} {own : List Nat} (hs : ∀ j ∈ tgSlots mt, j ∈ own) (h : RdE W WF (evE tx (.comp me mt own mi mc)) σ H Q) :
    tLc (RdI W (evI tx mi)) (RdG W mt) (RdT W WF fun ρ => testOf (evE tx mc ρ)) (RdE W WF (evE tx me)) own σ H Q := by
  obtain ⟨L, ρ, S, rfl, hL, hE, h⟩ := h
  rw [evE] at h
  refine ⟨L, ρ, S, rfl, hL, hE, h.bnd1.imp fun w S1 L1 s1 o1 q1 h1 J wk => ?_⟩
  intro D nD
  have h1 : Out W EF L S (compNew (fun n => compWalk (fun x => match setTg mt x (wipeE ρ own) with
      | some ρ' => bnd (testOf (evE tx mc ρ')) fun b => if b = true then bnd (evE tx me ρ') fun v => lift (v.toD.map some) else ret none
      | none => fail) n w) S1) fun rv S' L' => ∀ v, RepR W L L' v rv → Q v L'.H := h1
  generalize hstep : (fun x => match setTg mt x (wipeE ρ own) with
      | some ρ' => bnd (testOf (evE tx mc ρ')) fun b => if b = true then bnd (evE tx me ρ') fun v => lift (v.toD.map some) else ret none
      | none => fail : Pk.D → M (Option Pk.D)) = step at h1
  have nz : ¬ L1.Z D := fun z => by
    obtain ⟨w, e, _⟩ := o1.zH D z
    rw [nD] at e
    cases e
  have sm := Same.upd (o := HO.lst []) nD
  have sp : Stp L1 (L1.plus D (L2.upd L1.H D (.lst []))) := Stp.plus o1 sm nD
  have op : Ok W (L1.plus D (L2.upd L1.H D (.lst []))) { S1 with cells := S1.cells ++ [.lst []] } := o1.plus sm nD upd_same id ⟨[], upd_same, .nil⟩
  generalize hn : S1.cells.length = n at *
  have hgD : (L1.plus D (L2.upd L1.H D (.lst []))).m[n]? = some D := by show (L1.m ++ [D])[n]? = some D; rw [← hn, ← o1.len]; simp
  -- the turns, and what is behind them
  have h2 : Out W EF (L1.plus D (L2.upd L1.H D (.lst []))) { S1 with cells := S1.cells ++ [.lst []] } (compWalk step n w { S1 with cells := S1.cells ++ [.lst []] })
      fun _ S' L' => Out W EF L S (compEnd n S1.esc.length S') fun rv S' L' => ∀ v, RepR W L L' v rv → Q v L'.H := by
    unfold compNew at h1
    rw [hn] at h1
    dsimp only at h1
    cases e : compWalk step n w { S1 with cells := S1.cells ++ [.lst []] } with
    | ok a S' => rw [e] at h1; exact fun _ _ _ _ => h1
    | exc x S' => rw [e] at h1; exact h1.elim
    | err => rw [e] at h1; exact h1.elim
  generalize hLp : L1.plus D (L2.upd L1.H D (.lst [])) = Lp at *
  generalize hSp : ({ S1 with cells := S1.cells ++ [.lst []] } : Pk.St) = Sp at *
  refine ⟨fun i m H => ∃ L' S', L'.H = H ∧ Stp Lp L' ∧ Ok W L' S' ∧ SS Sp S' ∧ meas w m i ∧ Out W EF Lp Sp (restW step n w m i S') fun _ S' L' => Out W EF L S (compEnd n S1.esc.length S') fun rv S' L' => ∀ v, RepR W L L' v rv → Q v L'.H, ?_, ?_⟩
  · cases w with
    | row ds => exact ⟨ds.length, Lp, Sp, by rw [← hLp]; rfl, op.refl, op, SS.refl _, Nat.le_refl _, h2⟩
    | cell k => exact ⟨turns, Lp, Sp, by rw [← hLp]; rfl, op.refl, op, SS.refl _, trivial, h2⟩
  rintro i m H ⟨L', S', rfl, s', o', q', hm, h3⟩
  rcases rest_turn hm h3 with ⟨e, h4⟩ | ⟨x, m', hlt, e, hm', h4⟩
  · refine .inl ⟨wk.stop L' S' i (sp.trans s') o' e, ?_⟩
    have h5 : Out W EF L S (compEnd n S1.esc.length S') _ := h4 L' s' o' q'
    rw [← hn] at h5
    rw [← hLp] at s'
    rw [← hSp] at q'
    obtain ⟨L3, S3, acc, e3, r3, q3⟩ := comp_end hL s1 o1 q1 nD s' o' q' h5
    rw [← e3]
    exact q3 _ r3
  · obtain ⟨go, yl⟩ := wk.go L' S' i x (sp.trans s') o' e
    refine .inr ⟨go, fun H' => ∃ L' S', L'.H = H' ∧ Stp Lp L' ∧ Ok W L' S' ∧ SS Sp S' ∧ Out W EF Lp Sp (restW step n w m' (i + 1) S') fun _ S' L' => Out W EF L S (compEnd n S1.esc.length S') fun rv S' L' => ∀ v, RepR W L L' v rv → Q v L'.H,
      fun H' ⟨L'', S'', e1, e2, e3, e4, e5⟩ => ⟨m', hlt, L'', S'', e1, e2, e3, e4, hm', e5⟩, fun v H' y => ?_⟩
    obtain ⟨La, e2, s2, o2, r2⟩ := yl v H' y
    subst e2
    have s02 := s'.trans s2
    have hE2 : RepE W La (L2.wipe σ own) (wipeE ρ own) := (((hE.step s1).step sp).step s02).wipe own
    have hst : step x = (match setTg mt x (wipeE ρ own) with
      | some ρ' => bnd (testOf (evE tx mc ρ')) fun b => if b = true then bnd (evE tx me ρ') fun v => lift (v.toD.map some) else ret none
      | none => fail) := by rw [← hstep]
    cases et : setTg mt x (wipeE ρ own) with
    | none =>
      rw [hst, et] at h4
      exact h4.elim
    | some ρ' =>
      rw [hst, et] at h4
      refine ⟨La, _, S', x, ρ', rfl, o2, hE2, r2, et, fun σ' hE' on => ⟨(on.wipe hs).trans wipe_wipe, ?_⟩⟩
      dsimp only at h4
      rw [bnd_assoc] at h4
      refine ⟨La, ρ', S', rfl, o2, hE', (Out.later s02 q' h4.bnd1).imp fun b S3 L3 s3 o3 q3 h5 => ?_⟩
      cases b with
      | false =>
        rw [if_neg Bool.false_ne_true] at h5 ⊢
        exact ⟨L3, S3, rfl, s02.trans s3, o3, q'.trans q3, h5⟩
      | true =>
        rw [if_pos rfl] at h5 ⊢
        rw [bnd_assoc] at h5
        refine RdE.at (s02.trans s3) o3 (q'.trans q3) (hE'.step s3) h5 fun u rv S4 L4 s4 o4 q4 r4 h6 => ?_
        cases ed : rv.toD with
        | none => rw [ed] at h6; exact h6.elim
        | some d =>
          rw [ed] at h6
          have h6 : Out W EF Lp Sp (bnd (putC n (some d)) (fun _ => restW step n w m' (i + 1)) S4) _ := h6
          have s04 := s02.trans (s3.trans s4)
          have qs4 := q'.trans (q3.trans q4)
          obtain ⟨L5, e5, s5, o5, r5⟩ := r4.frz (x := .d d) s4 o4 (by
            cases rv with
            | v y => cases y with
              | d y => cases ed; rfl
              | r k => cases ed
            | tmp ob => show ob.toD.map Val.d = some (Val.d d); rw [show ob.toD = some d from ed]; rfl)
          have s05 := s02.trans (s3.trans s5)
          unfold bnd putC at h6
          have hg5 := s05.get hgD
          cases ec : S4.cells[n]? with
          | none => simp only [ec] at h6; exact h6.elim
          | some ob =>
            cases ob with
            | dic _ => simp only [ec] at h6; exact h6.elim
            | ins _ _ => simp only [ec] at h6; exact h6.elim
            | lst acc =>
              simp only [ec] at h6
              obtain ⟨vs, hD, rl⟩ := o5.cel n D _ hg5 ec
              by_cases hl : acc.length < line
              · rw [if_pos hl] at h6
                refine ⟨vs, by rw [← e5]; exact hD, by rw [rl.length, ← line_eq]; exact hl, ?_⟩
                have hma : D ∈ L5.m := List.mem_of_getElem? hg5
                have kw := keeps_wr (u := HO.lst (vs ++ [u])) o5 hma
                have ow : Ok W (L5.wr D (.lst (vs ++ [u]))) { S4 with cells := S4.cells.set n (.lst (acc ++ [d])) } := o5.wr hg5 id ⟨_, upd_same, (rl.snoc r5).mono kw⟩
                have qw : SS S4 { S4 with cells := S4.cells.set n (.lst (acc ++ [d])) } := SS.wr fun _ => trivial
                exact ⟨_, _, by show L2.upd L5.H D _ = _; rw [e5], s05.trans (Stp.wr o5 hma), ow, qs4.trans qw, h6⟩
              · rw [if_neg hl] at h6
                exact h6.elim
end
end Pk
end
section
set_option Elab.async false
set_option linter.all false
set_option maxRecDepth 100000
/-! Iterators' nodes, loops. -/
namespace Pk
open PySem L2 PyProof.Rows

section
variable {X : Cx} {W : Wd} {tg : Expr}
theorem n_ie {l : Expr} {tx : Tx} {m : ME} (hW : W.K = X.K) (hl : PE X l (RdE W WF (evE tx m))) : PI X tg l (RdI W (evI tx (.e m))) := by
  refine PI.imp (pi_any hl) fun σ H R q => ?_
  obtain ⟨L, ρ, S, rfl, hL, hE, h⟩ := q
  rw [evI] at h
  refine RdE.go hL hE h fun v a S1 L1 s1 o1 r1 h1 => ?_
  obtain ⟨w, e, q⟩ := Out.lift o1 (show Out W EF L1 S1 (lift (walkOf S1 a) S1) _ from h1)
  unfold walkOf at e
  split at e
  · cases e
    obtain ⟨p, vs, ev, hp, rl⟩ := RepT.tup (show RepT W L1.Z L1.H v (.tup _) from r1)
    exact .inr (.inl ⟨p, ev, ⟨vs, hW ▸ hp⟩, q _ (Wk.tup hW hp rl)⟩)
  · cases e
    cases (show RepD W L1.Z L1.H v (.lst _) from r1) with
    | lst h0 h2 h3 => exact .inl ⟨_, rfl, ⟨_, SqL.of h2⟩, q _ (Wk.list h2 (fun z => h0 (o1.mz _ z)) h3)⟩
  · cases e
    cases (show RepD W L1.Z L1.H v (.str _) from r1)
    exact .inr (.inr ⟨_, rfl, q _ Wk.str⟩)
  · cases e
    obtain ⟨p, ev, _, _, n, vs, h2, h3⟩ := r1
    exact .inl ⟨p, ev, ⟨vs, SqL.of h2⟩, q _ (Wk.list h2 n h3)⟩
  · rename_i i
    split at e
    · rename_i ds ec
      cases e
      obtain ⟨p, em, ev⟩ := r1
      obtain ⟨vs, h2, h3⟩ := o1.cel i p _ em ec
      exact .inl ⟨p, ev, ⟨vs, SqL.of h2⟩, q _ (Wk.cell em)⟩
    · cases e
  · cases e
theorem Out.eqn {α : Type} {W : Wd} {E : XK} {L : Lo} {S : Pk.St} {r : Res α} {P : α → Pk.St → Lo → Prop} (h : Out W E L S r P) : Out W E L S r fun a S' L' => r = .ok a S' ∧ P a S' L' := by
  cases r with
  | ok a S' => exact fun L' s o q => ⟨rfl, h L' s o q⟩
  | exc e S' => exact h
  | err => exact h
theorem evL_len {tx : Tx} : ∀ {es : List ME} {ρ : Pk.Env} {S S' : Pk.St} {as : List RV}, evL tx es ρ S = .ok as S' → as.length = es.length
  | [], ρ, S, S', as, h => by
    rw [evL] at h
    cases h
    rfl
  | e :: es, ρ, S, S', as, h => by
    rw [evL] at h
    obtain ⟨x, S1, _, h⟩ := bnd_ok h
    obtain ⟨xs, S2, h2, h⟩ := bnd_ok h
    cases h
    rw [List.length_cons, List.length_cons, evL_len h2]
theorem looks_len {S : Pk.St} : ∀ {as : List RV} {ds : List D}, looks S as = some ds → ds.length = as.length
  | [], ds, h => by cases h; rfl
  | a :: as, ds, h => by
    unfold looks at h
    split at h
    · rename_i x xs e1 e2
      cases h
      rw [List.length_cons, List.length_cons, looks_len e2]
    · cases h
theorem dats_len : ∀ {as : List RV} {ds : List D}, dats as = some ds → ds.length = as.length
  | [], ds, h => by cases h; rfl
  | a :: as, ds, h => by
    unfold dats at h
    split at h
    · rename_i x xs e1 e2
      cases h
      rw [List.length_cons, List.length_cons, dats_len e2]
    · cases h
/-- a range's bounds -/
theorem range_ok {σ : L2.St} {H : Hp} {R : L2.It → Hp → Prop} {tx : Tx} {ms : List ME} (h : RdI W (evI tx (.range ms)) σ H R) : RdA W WF (evL tx ms) σ H fun vs H1 =>
    (ms.length = 1 ∧ ∃ j : Int, vs = [.int j] ∧ -(2 ^ 62) ≤ j ∧ j < 2 ^ 62 ∧ R (Itr 0 j.toNat) H1) ∨ (ms.length = 2 ∧ ∃ i j : Int, vs = [.int i, .int j] ∧ (-(2 ^ 62) ≤ i ∧ i < 2 ^ 62 ∧ -(2 ^ 62) ≤ j ∧ j < 2 ^ 62) ∧ R (Itr i (j - i).toNat) H1) := by
  obtain ⟨L, ρ, S, rfl, hL, hE, h⟩ := h
  rw [evI] at h
  refine ⟨L, ρ, S, rfl, hL, hE, h.bnd.eqn.imp fun as S1 L1 s1 o1 q1 h1 vs r1 => ?_⟩
  obtain ⟨he, h1⟩ := h1
  obtain ⟨ds, e, h2⟩ := out_lookAll o1 h1
  obtain ⟨w, e1, q⟩ := h2.lift o1
  obtain ⟨rs, e2, e3⟩ := Option.map_eq_some_iff.mp e1
  subst e3
  have rt := RepRs.looks o1 r1.all e
  have hlen : ds.length = ms.length := (looks_len e).trans (evL_len he)
  unfold rangeOf at e2
  split at e2
  · rename_i n
    obtain ⟨hs, e2⟩ := ite_some e2
    subst e2
    obtain ⟨x, ex, rx⟩ := rt.one
    subst ex
    rw [rx.int]
    exact .inl ⟨hlen.symm, n, rfl, hs.1, hs.2, q _ Wk.range⟩
  · rename_i i j
    obtain ⟨hs, e2⟩ := ite_some e2
    subst e2
    obtain ⟨x, y, ex, rx, ry⟩ := rt.two
    subst ex
    rw [rx.int, ry.int]
    exact .inr ⟨hlen.symm, i, j, rfl, ⟨hs.1.1, hs.1.2, hs.2.1, hs.2.2⟩, q _ Wk.range⟩
  · cases e2
theorem RdA.imp {σ : L2.St} {H : Hp} {m : Pk.Env → M (List RV)} {Q Q' : List V → Hp → Prop} (h : RdA W WF m σ H Q) (i : ∀ vs H', Q vs H' → Q' vs H') : RdA W WF m σ H Q' := by
  obtain ⟨L, ρ, S, e, hL, hE, h⟩ := h
  exact ⟨L, ρ, S, e, hL, hE, h.imp fun as S1 L1 s1 o1 q1 h1 vs r1 => i _ _ (h1 vs r1)⟩
theorem n_range1 {a : Expr} {p pos : Pos} {tx : Tx} {ms : List ME} (hg : Gl X "range") (hm : X.mg "range" = none) (hn : nice a = true) (hl : ms.length = 1) (ha : PA X [a] (RdA W WF (evL tx ms))) : PI X tg (.Call (.Name "range" p) [a] [] pos) (RdI W (evI tx (.range ms))) := by
  refine PI.imp (pi_range1 hg hm ha (nice_star hn [] _)) fun σ H R q => (range_ok q).imp fun vs H1 h => ?_
  rcases h with ⟨_, h⟩ | ⟨h, _⟩
  · exact h
  · omega
theorem n_range2 {a b : Expr} {p pos : Pos} {tx : Tx} {ms : List ME} (hg : Gl X "range") (hm : X.mg "range" = none) (hn : nice a = true) (hn2 : nice b = true) (hl : ms.length = 2) (ha : PA X [a, b] (RdA W WF (evL tx ms))) : PI X tg (.Call (.Name "range" p) [a, b] [] pos) (RdI W (evI tx (.range ms))) := by
  refine PI.imp (pi_range2 hg hm ha (by rw [nice_star hn, nice_star hn2]; rfl) (nice_star hn2 [] _)) fun σ H R q => (range_ok q).imp fun vs H1 h => ?_
  rcases h with ⟨h, _⟩ | ⟨_, h⟩
  · omega
  · exact h
theorem n_zip {a b : Expr} {es : List Expr} {kk : Nat} {p tp pos : Pos} {tx : Tx} {ms : List ME} (hW : W.K = X.K) (hg : Gl X "zip") (hm : X.mg "zip" = none) (hn : nice a = true) (hn2 : nice b = true) (ha : PA X [a, b] (RdA W WF (evL tx ms))) : PI X (.Tuple es kk tp) (.Call (.Name "zip" p) [a, b] [] pos) (RdI W (evI tx (.zip ms))) := by
  refine PI.imp (RZ.pi_zipA hg hm ha (nice_star hn _ _) (by rw [nice_star hn2]; rfl)) fun σ H R q => ?_
  obtain ⟨L, ρ, S, rfl, hL, hE, h⟩ := q
  rw [evI] at h
  refine ⟨L, ρ, S, rfl, hL, hE, h.bnd1.imp fun as S1 L1 s1 o1 q1 h1 vs r1 => ?_⟩
  unfold bnd at h1
  cases ed : dats as with
  | none => rw [ed] at h1; exact h1.elim
  | some ds =>
    rw [ed] at h1
    obtain ⟨Lb, eb, sb, ob, rb⟩ := r1.dats s1 o1 ed
    rw [← eb]
    match ds, rb, h1 with
    | [], _, h1 => exact h1.elim
    | [_], _, h1 => exact h1.elim
    | _ :: _ :: _ :: _, _, h1 => exact h1.elim
    | [x, y], rb, h1 =>
      have h1 : Out W EF L S (lift ((zipO x y).map Walk.row) S1) fun w S' L' => ∀ (J : L2.It), Wk W L' J w → R J L'.H := h1
      obtain ⟨w, e, h2⟩ := Out.lifts h1
      obtain ⟨rs, e1, e2⟩ := Option.map_eq_some_iff.mp e
      subst e2
      have q := h2 Lb sb ob q1
      cases rb with
      | cons rx rb =>
        cases rb with
        | cons ry rb =>
          cases rb
          unfold zipO at e1
          split at e1
          · cases e1
            cases rx with
            | tup h3 h4 =>
              cases ry with
              | tup h5 h6 =>
                rw [← eb] at h3 h4 h5 h6
                exact ⟨_, _, _, _, rfl, .inr ⟨hW ▸ h3, hW ▸ h5, q _ (Wk.zipT hW h3 h5 h4 h6)⟩⟩
          · cases e1
            cases rx with
            | lst h0 h3 h4 =>
              cases ry with
              | lst h0' h5 h6 =>
                rw [← eb] at h3 h4 h5 h6
                exact ⟨_, _, _, _, rfl, .inl ⟨SqL.of h3, SqL.of h5, q _ (Wk.zipL h3 (fun z => h0 (ob.mz _ z)) h5 (fun z => h0' (ob.mz _ z)) h4 h6)⟩⟩
          · cases e1
end
end Pk
end
section
set_option Elab.async false
set_option linter.all false
set_option maxRecDepth 100000
/-! Loops. -/
namespace Pk
open PySem L2 PyProof.Rows

section
variable {X : Cx} {W : Wd} {L0 L L' L1 : Lo} {S S' S1 : Pk.St}
def restF {α : Type} (step : D → Pk.Env → M (Option α × Pk.Env)) (w : Walk) (m i : Nat) (ρ : Pk.Env) : M (Option α × Pk.Env) := match w with
  | .row ds => forRow step (ds.drop i) ρ
  | .cell k => forCell step k m i ρ
theorem restF_turn {α β : Type} {step : D → Pk.Env → M (Option α × Pk.Env)} {w : Walk} {m i : Nat} {ρ : Pk.Env} {g : Option α × Pk.Env → M β} {P : β → Pk.St → Lo → Prop} (hm : meas w m i) (h : Out W EF L S (bnd (restF step w m i ρ) g S') P) :
    (nth w S' i = some none ∧ Out W EF L S (g (none, ρ) S') P) ∨ ∃ x m', m' < m ∧ nth w S' i = some (some x) ∧ meas w m' (i + 1) ∧ Out W EF L S (bnd (bnd (step x ρ) fun p => match p with
      | (some a, ρ') => ret (some a, ρ')
      | (none, ρ') => restF step w m' (i + 1) ρ') g S') P := by
  cases w with
  | row ds =>
    have hm : ds.length ≤ m + i := hm
    have h : Out W EF L S (bnd (forRow step (ds.drop i) ρ) g S') P := h
    cases e : ds[i]? with
    | none =>
      refine .inl ⟨by show some ds[i]? = _; rw [e], ?_⟩
      rw [List.drop_of_length_le (List.getElem?_eq_none_iff.mp e)] at h
      exact h
    | some x =>
      have hi := (List.getElem?_eq_some_iff.mp e).1
      refine .inr ⟨x, m - 1, by omega, by show some ds[i]? = _; rw [e], show ds.length ≤ m - 1 + (i + 1) by omega, ?_⟩
      rw [drop_at e] at h
      exact h
  | cell k =>
    have h : Out W EF L S (bnd (forCell step k m i ρ) g S') P := h
    cases m with
    | zero => exact h.elim
    | succ m =>
      unfold forCell at h
      rw [bnd_assoc] at h
      unfold bnd cellAt at h
      cases ec : S'.cells[k]? with
      | none => simp only [ec] at h; exact h.elim
      | some ob =>
        cases ob with
        | lst ds =>
          simp only [ec] at h
          cases e : ds[i]? with
          | none =>
            simp only [e] at h
            exact .inl ⟨by unfold nth; simp only [ec, e], h⟩
          | some x =>
            simp only [e] at h
            exact .inr ⟨x, m, Nat.lt_succ_self m, by unfold nth; simp only [ec, e], trivial, h⟩
        | dic _ => simp only [ec] at h; exact h.elim
        | ins _ _ => simp only [ec] at h; exact h.elim
/-- a for loop -/
theorem for_ok {σ : L2.St} {H : Hp} {D : Ends} {tx : Tx} {mt : Tg} {mi : Pk.It} {mb : List MS} (h : RdS W (evS tx (.loop mt mi mb)) D σ H) : tFor (RdI W (evI tx mi)) (RdG W mt) (RdS W (evB tx mb)) D σ H := by
  obtain ⟨L, ρ, S, rfl, hL, hE, h⟩ := h
  rw [evS] at h
  refine ⟨L, ρ, S, rfl, hL, hE, h.bnd1.imp fun w S1 L1 s1 o1 q1 h1 J wk => ?_⟩
  generalize hstep : (fun x ρ => match setTg mt x ρ with
      | some ρ' => turnOf (evB tx mb ρ')
      | none => fail : Pk.D → Pk.Env → M (Option (Option RV) × Pk.Env)) = step
  have h1 : Out W EF L S (bnd (forWalk step w ρ) endLoop S1) fun p _ L' => FlOk W L L' D p := by
    rw [← hstep]
    exact h1
  refine ⟨fun i m σ H => ∃ L' S' ρ', L'.H = H ∧ Stp L1 L' ∧ Ok W L' S' ∧ SS S1 S' ∧ RepE W L' σ ρ' ∧ meas w m i ∧ Out W EF L S (bnd (restF step w m i ρ') endLoop S') fun p _ L' => FlOk W L L' D p, ?_, ?_⟩
  · cases w with
    | row ds => exact ⟨ds.length, L1, S1, ρ, rfl, o1.refl, o1, SS.refl _, hE.step s1, Nat.le_refl _, h1⟩
    | cell k => exact ⟨turns, L1, S1, ρ, rfl, o1.refl, o1, SS.refl _, hE.step s1, trivial, h1⟩
  rintro i m σ' H ⟨L', S', ρ', rfl, s', o', q', hE', hm, h3⟩
  rcases restF_turn hm h3 with ⟨e, h4⟩ | ⟨x, m', hlt, e, hm', h4⟩
  · refine .inl ⟨wk.stop L' S' i s' o' e, ?_⟩
    have h5 : Out W EF L S (ret (Fl.nx, ρ') S') fun p _ L' => FlOk W L L' D p := h4
    exact h5 L' (s1.trans s') o' (q1.trans q') σ' hE'
  · obtain ⟨go, yl⟩ := wk.go L' S' i x s' o' e
    refine .inr ⟨go, fun σ H' => ∃ L' S' ρ', L'.H = H' ∧ Stp L1 L' ∧ Ok W L' S' ∧ SS S1 S' ∧ RepE W L' σ ρ' ∧ Out W EF L S (bnd (restF step w m' (i + 1) ρ') endLoop S') fun p _ L' => FlOk W L L' D p,
      fun σ H' ⟨L'', S'', ρ'', e1, e2, e3, e4, e5, e6⟩ => ⟨m', hlt, L'', S'', ρ'', e1, e2, e3, e4, e5, hm', e6⟩, fun v H' y => ?_⟩
    obtain ⟨La, e2, s2, o2, r2⟩ := yl v H' y
    subst e2
    have s02 := s'.trans s2
    have hst : step x ρ' = (match setTg mt x ρ' with
      | some ρ' => turnOf (evB tx mb ρ')
      | none => fail) := by rw [← hstep]
    cases et : setTg mt x ρ' with
    | none =>
      rw [hst, et] at h4
      exact h4.elim
    | some ρ2 =>
      rw [hst, et] at h4
      refine ⟨La, ρ', S', x, ρ2, rfl, o2, hE'.step s2, r2, et, fun σ2 hE2 on => ?_⟩
      dsimp only at h4
      unfold turnOf at h4
      rw [bnd_assoc, bnd_assoc] at h4
      refine ⟨La, ρ2, S', rfl, o2, hE2, (Out.later (s1.trans s02) (q1.trans q') h4.bnd1).imp fun p S3 L3 s3 o3 q3 h5 => ?_⟩
      obtain ⟨fl, ρ3⟩ := p
      have s03 := s02.trans s3
      have q03 := q'.trans q3
      cases fl with
      | nx => exact fun σ3 hE3 => ⟨L3, S3, ρ3, rfl, s03, o3, q03, hE3, h5⟩
      | cont => exact fun σ3 hE3 => ⟨L3, S3, ρ3, rfl, s03, o3, q03, hE3, h5⟩
      | brk =>
        have h5 : Out W EF L S (ret (Fl.nx, ρ3) S3) fun p _ L' => FlOk W L L' D p := h5
        exact fun σ3 hE3 => h5 L3 (s1.trans s03) o3 (q1.trans q03) σ3 hE3
      | ret v =>
        have h5 : Out W EF L S (ret (Fl.ret v, ρ3) S3) fun p _ L' => FlOk W L L' D p := h5
        exact fun u ru => h5 L3 (s1.trans s03) o3 (q1.trans q03) u (ru.from (s1.trans s02))
/-- a while loop -/
theorem while_ok {σ : L2.St} {H : Hp} {D : Ends} {tx : Tx} {mt : ME} {mb : List MS} (h : RdS W (evS tx (.whil mt mb)) D σ H) : tWhile (RdT W WF fun ρ => testOf (evE tx mt ρ)) (RdS W (evB tx mb)) D σ H := by
  obtain ⟨L, ρ, S, rfl, hL, hE, h⟩ := h
  rw [evS] at h
  refine ⟨fun m σ H => ∃ L' S' ρ', L'.H = H ∧ Stp L L' ∧ Ok W L' S' ∧ SS S S' ∧ RepE W L' σ ρ' ∧ Out W EF L S (bnd (whileLoop (fun ρ => testOf (evE tx mt ρ)) (fun ρ => turnOf (evB tx mb ρ)) m ρ') endLoop S') fun p _ L' => FlOk W L L' D p,
    ⟨turns, L, S, ρ, rfl, hL.refl, hL, SS.refl _, hE, h⟩, ?_⟩
  rintro m σ' H ⟨L', S', ρ', rfl, s', o', q', hE', h3⟩
  cases m with
  | zero => exact h3.elim
  | succ m =>
    unfold whileLoop at h3
    rw [bnd_assoc] at h3
    refine ⟨L', ρ', S', rfl, o', hE', (Out.later s' q' h3.bnd1).imp fun b S1 L1 s1 o1 q1 h4 => ?_⟩
    cases b with
    | false =>
      have h5 : Out W EF L S (ret (Fl.nx, ρ') S1) fun p _ L' => FlOk W L L' D p := h4
      exact h5 L1 (s'.trans s1) o1 (q'.trans q1) σ' (hE'.step s1)
    | true =>
      rw [if_pos rfl] at h4 ⊢
      unfold turnOf at h4
      rw [bnd_assoc, bnd_assoc] at h4
      refine ⟨fun σ H => ∃ L' S' ρ', L'.H = H ∧ Stp L L' ∧ Ok W L' S' ∧ SS S S' ∧ RepE W L' σ ρ' ∧ Out W EF L S (bnd (whileLoop (fun ρ => testOf (evE tx mt ρ)) (fun ρ => turnOf (evB tx mb ρ)) m ρ') endLoop S') fun p _ L' => FlOk W L L' D p,
      fun σ H h => ⟨m, Nat.lt_succ_self m, h⟩, ?_⟩
      refine ⟨L1, ρ', S1, rfl, o1, hE'.step s1, (Out.later (s'.trans s1) (q'.trans q1) h4.bnd1).imp fun p S3 L3 s3 o3 q3 h5 => ?_⟩
      obtain ⟨fl, ρ3⟩ := p
      have s03 := (s'.trans s1).trans s3
      have q03 := (q'.trans q1).trans q3
      cases fl with
      | nx => exact fun σ3 hE3 => ⟨L3, S3, ρ3, rfl, s03, o3, q03, hE3, h5⟩
      | cont => exact fun σ3 hE3 => ⟨L3, S3, ρ3, rfl, s03, o3, q03, hE3, h5⟩
      | brk =>
        have h5 : Out W EF L S (ret (Fl.nx, ρ3) S3) fun p _ L' => FlOk W L L' D p := h5
        exact fun σ3 hE3 => h5 L3 s03 o3 q03 σ3 hE3
      | ret v =>
        have h5 : Out W EF L S (ret (Fl.ret v, ρ3) S3) fun p _ L' => FlOk W L L' D p := h5
        exact fun u ru => h5 L3 s03 o3 q03 u (ru.from (s'.trans s1))
end
end Pk
end
section
set_option Elab.async false
set_option linter.all false
set_option maxRecDepth 100000
/-! Statements. -/
namespace Pk
open PySem L2 PyProof.Rows

section
variable {X : Cx} {W : Wd} {L0 L L' L1 : Lo} {S S' S1 : Pk.St}
theorem SS.app {news : List MObj} (hc : S1.cells = S.cells ++ news) (he : S1.esc = S.esc) : SS S S1 := by
  refine ⟨by rw [hc, List.length_append]; omega, [], by rw [he]; rfl, fun n k hn hk _ hr o e => ?_⟩
  rw [hc, List.getElem?_append_left (by omega)] at e
  exact hr o e
/-- a value laid under a name -/
theorem out_lay {β : Type} {c : Bool} {u : V} {v : RV} {f : Val → M β} {P : β → Pk.St → Lo → Prop} (s : Stp L L') (o : Ok W L' S') (q : SS S S') (r : RepR W L L' u v) (h : Out W EF L S (bnd (lay c v) f S') P) :
    ∃ x L2 S2, L2.H = L'.H ∧ Stp L L2 ∧ Ok W L2 S2 ∧ SS S S2 ∧ RepV W L2 u x ∧ (∀ v' x', RepV W L' v' x' → RepV W L2 v' x') ∧ Out W EF L S (f x S2) P := by
  unfold bnd at h
  cases e : Pk.lay c v S' with
  | err => rw [e] at h; exact h.elim
  | exc x S1 => exact (lay_exc e).elim
  | ok x S2 =>
    rw [e] at h
    obtain ⟨L2, h1, h2, h3, h4, h5, ⟨news, h6⟩, h7, h8⟩ := lay_ok s o r e
    exact ⟨x, L2, S2, h1, h2, h3, q.trans (SS.app h6 h5), h4, h7, h⟩
theorem RepE.keep {σ : L2.St} {ρ : Pk.Env} (h : RepE W L σ ρ) (k : ∀ v x, RepV W L v x → RepV W L' v x) : RepE W L' σ ρ := ⟨h.len, fun i x e => let ⟨v, e', r⟩ := h.var i x e; ⟨v, e', k v x r⟩⟩
theorem out_lift {α β : Type} {E : XK} {o : Option α} {f : α → M β} {P : β → Pk.St → Lo → Prop} (h : Out W E L S (bnd (lift o) f S') P) : ∃ a, o = some a ∧ Out W E L S (f a S') P := by
  cases o with
  | none => exact h.elim
  | some a => exact ⟨a, rfl, h⟩
/-- seen from a later place -/
theorem FlOk.from {D : Ends} {p : Fl × Pk.Env} (s : Stp L L1) (h : FlOk W L L' D p) : FlOk W L1 L' D p := by
  obtain ⟨fl, ρ⟩ := p
  cases fl with
  | ret v => exact fun u r => h u (r.from s)
  | nx => exact h
  | brk => exact h
  | cont => exact h
/-- name = value -/
theorem asg_ok {σ : L2.St} {H : Hp} {D : Ends} {tx : Tx} {i : Nat} {c : Bool} {me : ME} (h : RdS W (evS tx (.asg i c me)) D σ H) : tAsg (RdE W WF (evE tx me)) (gName i) D σ H := by
  obtain ⟨L, ρ, S, rfl, hL, hE, h⟩ := h
  rw [evS] at h
  show RdE W WF (evE tx me) σ L.H fun x H1 => D.nx (σ.set i (some x)) H1
  refine RdE.at hL.refl hL (SS.refl S) hE h fun v a S1 L1 s1 o1 q1 r1 h1 => ?_
  obtain ⟨x, L2, S2, eH, s2, o2, q2, rx, kp, h2⟩ := out_lay s1 o1 q1 r1 h1
  obtain ⟨ρ', e, h3⟩ := out_lift h2
  obtain ⟨hi, e⟩ := ite_some e
  subst e
  rw [← eH]
  have h4 : Out W EF L S (ret (Fl.nx, ρ.set i (some x)) S2) fun p _ L' => FlOk W L L' D p := h3
  exact h4 L2 s2 o2 q2 _ ((hE.step s2).set rx)
/-- a, b = value: no written tuple -/
theorem asgT_ok {σ : L2.St} {H : Hp} {D : Ends} {tx : Tx} {ts : List Tg} {me : ME} (h : RdS W (evS tx (.asgT ts me)) D σ H) : tAsg (RdE W WF (evE tx me)) (RdG W (.tup ts)) D σ H := by
  obtain ⟨L, ρ, S, rfl, hL, hE, h⟩ := h
  rw [evS] at h
  show RdE W WF (evE tx me) σ L.H fun x H1 => RdG W (.tup ts) x σ H1 D.nx
  refine RdE.at hL.refl hL (SS.refl S) hE h fun v a S1 L1 s1 o1 q1 r1 h1 => ?_
  obtain ⟨d, e, h2⟩ := out_lift h1
  obtain ⟨ρ', e2, h3⟩ := out_lift h2
  obtain ⟨L5, e5, s5, o5, r5⟩ := r1.frz (x := .d d) s1 o1 (by
    cases a with
    | v y => cases y with
      | d y => cases e; rfl
      | r k => cases e
    | tmp ob => show ob.toD.map Val.d = some (Val.d d); rw [show ob.toD = some d from e]; rfl)
  have h4 : Out W EF L S (ret (Fl.nx, ρ') S1) fun p _ L' => FlOk W L L' D p := h3
  exact ⟨L5, ρ, S1, d, ρ', e5, o5, hE.step s5, r5, e2, fun σ' hE' on => by rw [← e5]; exact h4 L5 s5 o5 q1 σ' hE'⟩
theorem ex_ok {σ : L2.St} {H : Hp} {D : Ends} {tx : Tx} {me : ME} (h : RdS W (evS tx (.ex me)) D σ H) : tDrop (RdE W WF (evE tx me)) D σ H := by
  obtain ⟨L, ρ, S, rfl, hL, hE, h⟩ := h
  rw [evS] at h
  refine RdE.at hL.refl hL (SS.refl S) hE h fun v a S1 L1 s1 o1 q1 r1 h1 => ?_
  have h4 : Out W EF L S (ret (Fl.nx, ρ) S1) fun p _ L' => FlOk W L L' D p := h1
  exact h4 L1 s1 o1 q1 σ (hE.step s1)
theorem ret_ok {σ : L2.St} {H : Hp} {D : Ends} {tx : Tx} {me : ME} (h : RdS W (evS tx (.ret me)) D σ H) : tRet (RdE W WF (evE tx me)) D σ H := by
  obtain ⟨L, ρ, S, rfl, hL, hE, h⟩ := h
  rw [evS] at h
  refine RdE.at hL.refl hL (SS.refl S) hE h fun v a S1 L1 s1 o1 q1 r1 h1 => ?_
  have h4 : Out W EF L S (ret (Fl.ret a, ρ) S1) fun p _ L' => FlOk W L L' D p := h1
  exact h4 L1 s1 o1 q1 v r1
theorem retN_ok {σ : L2.St} {H : Hp} {D : Ends} {tx : Tx} (h : RdS W (evS tx (.ret (.c .non))) D σ H) : tRetN D σ H := by
  obtain ⟨L, ρ, S, rfl, hL, hE, h⟩ := h
  rw [evS, evE] at h
  have h4 : Out W EF L S (ret (Fl.ret (dv .non), ρ) S) fun p _ L' => FlOk W L L' D p := h
  exact Out.ret hL h4 V.non .non
theorem ifs_ok {σ : L2.St} {H : Hp} {D : Ends} {tx : Tx} {mt : ME} {a b : List MS} (h : RdS W (evS tx (.ifs mt a b)) D σ H) : tIfS (RdT W WF fun ρ => testOf (evE tx mt ρ)) (RdS W (evB tx a)) (RdS W (evB tx b)) D σ H := by
  obtain ⟨L, ρ, S, rfl, hL, hE, h⟩ := h
  rw [evS] at h
  refine ⟨L, ρ, S, rfl, hL, hE, h.bnd1.imp fun k S1 L1 s1 o1 q1 h1 => ?_⟩
  have fin : ∀ {m : List MS}, Out W EF L S (evB tx m ρ S1) (fun p _ L' => FlOk W L L' D p) → RdS W (evB tx m) D σ L1.H := fun h => ⟨L1, ρ, S1, rfl, o1, hE.step s1, (Out.later s1 q1 h).imp fun p S2 L2 s2 o2 q2 h2 => FlOk.from s1 h2⟩
  cases k with
  | true => exact fin h1
  | false => exact fin h1
theorem pass_ok {σ : L2.St} {H : Hp} {D : Ends} {tx : Tx} (h : RdS W (evS tx .pass) D σ H) : tNext D σ H := by
  obtain ⟨L, ρ, S, rfl, hL, hE, h⟩ := h
  rw [evS] at h
  exact (Out.ret hL h) σ hE
theorem brk_ok {σ : L2.St} {H : Hp} {D : Ends} {tx : Tx} (h : RdS W (evS tx .brk) D σ H) : tBreak D σ H := by
  obtain ⟨L, ρ, S, rfl, hL, hE, h⟩ := h
  rw [evS] at h
  exact (Out.ret hL h) σ hE
theorem cont_ok {σ : L2.St} {H : Hp} {D : Ends} {tx : Tx} (h : RdS W (evS tx .cont) D σ H) : tCont D σ H := by
  obtain ⟨L, ρ, S, rfl, hL, hE, h⟩ := h
  rw [evS] at h
  exact (Out.ret hL h) σ hE
theorem nil_ok {σ : L2.St} {H : Hp} {D : Ends} {tx : Tx} (h : RdS W (evB tx []) D σ H) : tNext D σ H := by
  obtain ⟨L, ρ, S, rfl, hL, hE, h⟩ := h
  rw [evB] at h
  exact (Out.ret hL h) σ hE
theorem seq_ok {σ : L2.St} {H : Hp} {D : Ends} {tx : Tx} {s : MS} {ss : List MS} (h : RdS W (evB tx (s :: ss)) D σ H) : tSeq (RdS W (evS tx s)) (RdS W (evB tx ss)) D σ H := by
  obtain ⟨L, ρ, S, rfl, hL, hE, h⟩ := h
  rw [evB] at h
  refine ⟨L, ρ, S, rfl, hL, hE, h.bnd1.imp fun p S1 L1 s1 o1 q1 h1 => ?_⟩
  obtain ⟨fl, ρ'⟩ := p
  cases fl with
  | nx => exact fun σ' hE' => ⟨L1, ρ', S1, rfl, o1, hE', (Out.later s1 q1 h1).imp fun p S2 L2 s2 o2 q2 h2 => FlOk.from s1 h2⟩
  | brk => exact h1 L1 s1 o1 q1
  | cont => exact h1 L1 s1 o1 q1
  | ret v => exact h1 L1 s1 o1 q1
end
end Pk
end
section
set_option Elab.async false
set_option linter.all false
set_option maxRecDepth 100000
/-! Items written. -/
namespace Pk
open PySem L2 PyProof.Rows

section
variable {X : Cx} {W : Wd} {L0 L L' L1 : Lo} {S S' S1 : Pk.St}
/-- a list's or a dict's item written -/
def rPut : TSet := fun o i v H Q => rSetL o i v H Q ∨ rSetD o i v H Q
theorem set_put (hu : X.A.units + 1 < cLine) : PSet X rPut := fun pins s σ H o i v ov iv u Q I ro ri rv h => h.elim (set_list pins s σ H o i v ov iv u Q I ro ri rv) (set_dict hu pins s σ H o i v ov iv u Q I ro ri rv)
/-- what putO does, at a place -/
theorem putO_ok {a : Addr} {k : Nat} {ob ob' : MObj} {i x : D} {iv xv : V} {Q : Hp → Prop} {P : Unit → Pk.St → Lo → Prop} (s : Stp L L') (o : Ok W L' S') (q : SS S S') (ea : L'.m[k]? = some a) (ec : S'.cells[k]? = some ob) (ri : RepT W L'.Z L'.H iv i)
    (rx : RepD W L'.Z L'.H xv x) (e : putO ob i x = some ob') (h : Out W EF L S (.ok () { S' with cells := S'.cells.set k ob' }) P) (hQ : ∀ S1 L1, Stp L' L1 → P () S1 L1 → Q L1.H) : rPut (.ref a) iv xv L'.H Q := by
  have ro := o.cel k a ob ea ec
  have ha : a ∈ L'.m := List.mem_of_getElem? ea
  unfold putO at e
  split at e
  · rename_i ds j
    obtain ⟨hc, e⟩ := ite_some e
    subst e
    obtain ⟨vs, h1, h2⟩ := ro
    have hl := h2.length
    refine .inl ⟨a, vs, j, j.toNat, rfl, ri.int, h1, ?_, ?_⟩
    · unfold ixN
      rw [if_pos hc.1, if_pos (by omega)]
    · have kw := keeps_wr (u := HO.lst (vs.set j.toNat xv)) o ha
      have st : RepL W L'.Z L'.H (vs.set j.toNat xv) (ds.set j.toNat x) := h2.setAt rx j.toNat
      have ow : Ok W (L'.wr a (.lst (vs.set j.toNat xv))) { S' with cells := S'.cells.set k (.lst (ds.set j.toNat x)) } := o.wr ea id ⟨_, upd_same, st.mono kw⟩
      exact hQ _ (L'.wr a (.lst (vs.set j.toNat xv))) (Stp.wr o ha) (h _ (s.trans (Stp.wr o ha)) ow (q.trans (SS.wr fun _ => trivial)))
  · rename_i kvs
    obtain ⟨hc, e⟩ := ite_some e
    subst e
    obtain ⟨es, h1, h2⟩ := ro
    obtain ⟨key, ek⟩ := isKey_some hc.1
    have ev := key_v ek ri
    subst ev
    refine .inr ⟨a, _, rfl, DPut.k h1 (by rw [h2.len, ← line_eq]; exact hc.2), ?_⟩
    have kw := keeps_wr (u := HO.dK (putK es key xv)) o ha
    have st := RepK.put ek rx h2
    have ow : Ok W (L'.wr a (.dK (putK es key xv))) { S' with cells := S'.cells.set k (.dic (dPut i x kvs)) } := o.wr ea id ⟨_, upd_same, st.mono kw⟩
    exact hQ _ (L'.wr a (.dK (putK es key xv))) (Stp.wr o ha) (h _ (s.trans (Stp.wr o ha)) ow (q.trans (SS.wr fun _ => trivial)))
  · cases e
/-- o[i] = e -/
theorem subA_ok {σ : L2.St} {H : Hp} {D : Ends} {tx : Tx} {mo mi me : ME} (h : RdS W (evS tx (.subA mo mi me)) D σ H) : tAsg (RdE W WF (evE tx me)) (gSub (RdE W WF (evE tx mo)) (RdE W WF (evE tx mi)) rPut) D σ H := by
  obtain ⟨L, ρ, S, rfl, hL, hE, h⟩ := h
  rw [evS] at h
  show RdE W WF (evE tx me) σ L.H fun x H1 => RdE W WF (evE tx mo) σ H1 fun o H2 => RdE W WF (evE tx mi) σ H2 fun i H3 => rPut o i x H3 fun H4 => D.nx σ H4
  refine RdE.at hL.refl hL (SS.refl S) hE h fun v a S1 L1 s1 o1 q1 r1 h1 => ?_
  obtain ⟨x', e1, h2⟩ := out_lift h1
  obtain ⟨L5, e5, s5, o5, r5⟩ := r1.frz s1 o1 e1
  rw [← e5]
  refine RdE.at s5 o5 q1 (hE.step s5) h2 fun ov oa S2 L2 s2 o2 q2 r2 h3 => ?_
  refine RdE.at (s5.trans s2) o2 (q1.trans q2) ((hE.step s5).step s2) h3 fun iv ia S3 L3 s3 o3 q3 r3 h4 => ?_
  have h5 : Out W EF L S (bnd (putItem oa ia (.v x')) (fun _ => ret (Fl.nx, ρ)) S3) fun p _ L' => FlOk W L L' D p := h4
  unfold bnd putItem at h5
  cases oa with
  | tmp ob => exact h5.elim
  | v ox =>
    cases ox with
    | d d => exact h5.elim
    | r k =>
      cases el : ia.look S3 with
      | none => simp only [el] at h5; exact h5.elim
      | some id =>
        cases x' with
        | r j => simp only [el, RV.toD] at h5; exact h5.elim
        | d xd =>
          simp only [el, RV.toD] at h5
          cases ec : S3.cells[k]? with
          | none => simp only [ec] at h5; exact h5.elim
          | some ob =>
            simp only [ec] at h5
            cases ep : putO ob id xd with
            | none => simp only [ep] at h5; exact h5.elim
            | some ob' =>
              simp only [ep] at h5
              obtain ⟨p, em, ev⟩ := r2
              subst ev
              have rx : RepD W L3.Z L3.H v xd := RepD.mono (s2.trans s3).keeps r5
              refine putO_ok (s5.trans (s2.trans s3)) o3 (q1.trans (q2.trans q3)) (s3.get em) ec (r3.look o3 el) rx ep (P := fun _ _ L' => FlOk W L L' D (Fl.nx, ρ)) h5 fun S4 L4 s4 hp => ?_
              exact hp σ ((((hE.step s5).step s2).step s3).step s4)
/-! ### augmented stores -/
def rAug (op : Operator) : TIp := fun x y H Q => ∃ i j z : Int, x = .int i ∧ y = .int j ∧ augD op (.int i) (.int j) = some (.int z) ∧ Q (.int z) H
theorem ip_aug (op : Operator) : PIp X op (rAug op) := by
  intro pins s σ H x y v u Q I rx ry h
  obtain ⟨i, j, z, e1, e2, e, q⟩ := h
  unfold augD at e
  split at e
  · rename_i i' j' h1 h2
    cases h1
    cases h2
    cases e
    exact ip_add pins s σ H x y v u Q I rx ry ⟨i, j, e1, e2, q⟩
  · rename_i i' j' h1 h2
    cases h1
    cases h2
    cases e
    exact ip_sub pins s σ H x y v u Q I rx ry ⟨i, j, e1, e2, q⟩
  · cases e
theorem augD_int {op : Operator} {x y z : D} (h : augD op x y = some z) : ∃ i j k : Int, x = .int i ∧ y = .int j ∧ z = .int k := by
  unfold augD at h
  split at h
  · cases h; exact ⟨_, _, _, rfl, rfl, rfl⟩
  · cases h; exact ⟨_, _, _, rfl, rfl, rfl⟩
  · cases h
theorem aug_ok {σ : L2.St} {H : Hp} {D : Ends} {tx : Tx} {i : Nat} {op : Operator} {me : ME} (h : RdS W (evS tx (.aug i op me)) D σ H) : tAug i (RdE W WF (evE tx me)) (rAug op) D σ H := by
  obtain ⟨L, ρ, S, rfl, hL, hE, h⟩ := h
  rw [evS] at h
  cases ei : ρ[i]? with
  | none => rw [ei] at h; exact h.elim
  | some ov =>
  cases ov with
  | none => rw [ei] at h; exact h.elim
  | some xv =>
  cases xv with
  | r k => rw [ei] at h; exact h.elim
  | d x =>
    rw [ei] at h
    obtain ⟨v, ev, rv⟩ := hE.var i _ ei
    refine ⟨v, ev, ?_⟩
    refine RdE.at hL.refl hL (SS.refl S) hE h fun u a S1 L1 s1 o1 q1 r1 h1 => ?_
    have h1 : Out W EF L S (bnd (look1 a) (fun y => bnd (lift (augD op x y)) fun z => bnd (lift (setV i (.d z) ρ)) fun ρ' => ret (Fl.nx, ρ')) S1) fun p _ L' => FlOk W L L' D p := h1
    unfold bnd look1 at h1
    cases el : a.look S1 with
    | none => rw [el] at h1; exact h1.elim
    | some y =>
      rw [el] at h1
      have h1 : Out W EF L S (bnd (lift (augD op x y)) (fun z => bnd (lift (setV i (.d z) ρ)) fun ρ' => ret (Fl.nx, ρ')) S1) fun p _ L' => FlOk W L L' D p := h1
      obtain ⟨z, e1, h2⟩ := out_lift h1
      obtain ⟨p, q, k, ex, ey, ez⟩ := augD_int e1
      subst ex ey ez
      obtain ⟨ρ', e2, h3⟩ := out_lift h2
      obtain ⟨hi, e2⟩ := ite_some e2
      subst e2
      have hv : v = .int p := by cases (show RepD W L.Z L.H v (.int p) from rv); rfl
      have hu : u = .int q := (r1.look o1 el).int
      have h4 : Out W EF L S (ret (Fl.nx, ρ.set i (some (.d (.int k)))) S1) fun p _ L' => FlOk W L L' D p := h3
      exact ⟨p, q, k, hv, hu, e1, h4 L1 s1 o1 q1 _ ((hE.step s1).set (show RepV W L1 (.int k) (.d (.int k)) from RepD.int k))⟩
end
end Pk
end
section
set_option Elab.async false
set_option linter.all false
set_option maxRecDepth 100000
/-! Several names at once. -/
namespace Pk
open PySem L2 PyProof.Rows

def setSt : List (Nat × Bool) → List V → L2.St → L2.St
  | (i, _) :: is, v :: vs, σ => setSt is vs (σ.set i (some v))
  | _, _, σ => σ
section
variable {X : Cx} {W : Wd} {L0 : Lo}
theorem parSet_ok : ∀ {is : List (Nat × Bool)} {as : List RV} {vs : List V} {L : Lo} {S S1 : Pk.St} {σ : L2.St} {ρ ρ' : Pk.Env}, Stp L0 L → Ok W L S → RepRs W L0 L vs as → RepE W L σ ρ → parSet is as ρ S = .ok ρ' S1 →
    ∃ L1, L1.H = L.H ∧ Stp L0 L1 ∧ Ok W L1 S1 ∧ SS S S1 ∧ RepE W L1 (setSt is vs σ) ρ' ∧ is.length = as.length
  | [], [], vs, L, S, S1, σ, ρ, ρ', s, o, r, hE, e => by
    cases (show Res.ok ρ S = .ok ρ' S1 from e)
    cases r.all
    exact ⟨L, rfl, s, o, SS.refl S, hE, rfl⟩
  | (i, c) :: is, a :: as, vs, L, S, S1, σ, ρ, ρ', s, o, r, hE, e => by
    obtain ⟨hall, hnd⟩ := r
    cases hall with
    | cons r1 t =>
      rename_i v vs
      unfold parSet at e
      obtain ⟨x, S2, e1, e2⟩ := bnd_ok e
      obtain ⟨ρ2, S3, e3, e4⟩ := bnd_ok e2
      obtain ⟨e6, e5⟩ := lift_ok e3
      subst e5
      obtain ⟨hi, e6⟩ := ite_some e6
      subst e6
      obtain ⟨L2, h2, s2, o2, r2, q2, ⟨n2, c2⟩, k2, kr⟩ := lay_ok s o r1 e1
      rw [temps_cons] at hnd
      have rest : RepRs W L0 L2 vs as := by
        refine ⟨paired_out t fun v' a' h hm => kr v' a' h fun p ep ep' => ?_, ?_⟩
        · rw [ep] at hnd
          exact (List.nodup_cons.mp hnd).1 (hm p ep')
        · cases ep : tempOf v a with
          | none => rw [ep] at hnd; exact hnd
          | some p => rw [ep] at hnd; exact (List.nodup_cons.mp hnd).2
      obtain ⟨L3, h3, s3, o3, q3, hE3, hl⟩ := parSet_ok s2 o2 rest ((hE.keep k2).set r2) e4
      exact ⟨L3, h3.trans h2, s3, o3, (SS.app c2 q2).trans q3, hE3, by rw [List.length_cons, List.length_cons, hl]⟩
  | [], _ :: _, _, _, _, _, _, _, _, _, _, _, _, e => by cases e
  | _ :: _, [], _, _, _, _, _, _, _, _, _, _, _, e => by cases e
theorem parSet_exc : ∀ {is : List (Nat × Bool)} {as : List RV} {S S1 : Pk.St} {ρ : Pk.Env} {e : D}, parSet is as ρ S = .exc e S1 → False
  | [], [], _, _, _, _, h => by cases h
  | (i, c) :: is, a :: as, S, S1, ρ, e, h => by
    unfold parSet at h
    rcases bnd_exc h with h | ⟨x, S2, _, h⟩
    · exact lay_exc h
    · rcases bnd_exc h with h | ⟨x, S2, _, h⟩
      · exact lift_exc h
      · exact parSet_exc h
  | [], _ :: _, _, _, _, _, h => by cases h
  | _ :: _, [], _, _, _, _, h => by cases h
/-- values laid under names, from the first place -/
theorem par_at {σ : L2.St} {H : Hp} {D : Ends} {tx : Tx} {is : List (Nat × Bool)} {ms : List ME} (h : RdS W (evS tx (.par is ms)) D σ H) :
    RdA W WF (evL tx ms) σ H fun vs H1 => vs.length = is.length ∧ ∀ H2, Same H1 H2 → D.nx (setSt is vs σ) H2 := by
  obtain ⟨L, ρ, S, rfl, hL, hE, h⟩ := h
  rw [evS] at h
  refine ⟨L, ρ, S, rfl, hL, hE, h.bnd1.imp fun as S1 L1 s1 o1 q1 h1 vs r1 => ?_⟩
  unfold bnd at h1
  cases e : parSet is as ρ S1 with
  | err => rw [e] at h1; exact h1.elim
  | exc x S2 => exact (parSet_exc e).elim
  | ok ρ' S2 =>
    rw [e] at h1
    obtain ⟨L2, e2, s2, o2, q2, hE2, hl⟩ := parSet_ok s1 o1 r1 (hE.step s1) e
    refine ⟨by rw [paired_length r1.all, hl], fun H2 sm => ?_⟩
    rw [← e2] at sm
    have h3 : Out W EF L S (ret (Fl.nx, ρ') S2) fun p _ L' => FlOk W L L' D p := h1
    exact h3 ⟨L2.Z, L2.m, H2⟩ (s2.trans (Stp.same o2 sm)) (o2.same sm) (q1.trans q2) _ (hE2.step (Stp.same o2 sm))
theorem par2_ok {σ : L2.St} {H : Hp} {D : Ends} {tx : Tx} {i j : Nat} {ci cj : Bool} {ms : List ME} (h : RdS W (evS tx (.par [(i, ci), (j, cj)] ms)) D σ H) : tPar i j (RdA W WF (evL tx ms)) D σ H := by
  refine (par_at h).imp fun vs H1 q => ?_
  obtain ⟨hl, q⟩ := q
  match vs, hl, q with
  | [v, w], _, q => exact ⟨v, w, rfl, q H1 fun _ _ e => e⟩
/-- names in a row, as targets -/
def gNms (is : List (Nat × Bool)) : TGs := fun vs σ H Q => vs.length = is.length ∧ Q (setSt is vs σ) H
theorem parT_ok {K : PySem.W.Frag} {σ : L2.St} {H : Hp} {D : Ends} {tx : Tx} {is : List (Nat × Bool)} {ms : List ME} (hlen : is.length ≤ line) (h : RdS W (evS tx (.par is ms)) D σ H) :
    tAsg (tTup (RdA W WF (evL tx ms))) (gTup K is.length (gNms is)) D σ H := by
  show RdA W WF (evL tx ms) σ H fun vs H1 => vs.length ≤ sizeLine ∧ ∀ p, H1 p = none → gTup K is.length (gNms is) (.ref p) σ (L2.upd H1 p (.tup vs)) D.nx
  refine (par_at h).imp fun vs H1 q => ?_
  obtain ⟨hl, q⟩ := q
  refine ⟨by rw [hl, ← line_eq]; exact hlen, fun p np => ⟨p, vs, rfl, SqT.of upd_same, hl, hl, q _ (Same.upd np)⟩⟩
end
end Pk
end
section
set_option Elab.async false
set_option linter.all false
set_option maxRecDepth 100000
/-! Methods of built-in types. -/
namespace Pk
open PySem L2 PyProof.Rows

section
variable {X : Cx} {W : Wd} {σ : L2.St} {H : Hp} {Q : VK}
def rBm (W : Wd) (m : Bm) : V → List V → Hp → VK → Prop := fun x xs H Q => ∃ L0 S0 L S a as, L.H = H ∧ Stp L0 L ∧ Ok W L S ∧ SS S0 S ∧ RepRs W L0 L (x :: xs) (a :: as) ∧ Out W EF L0 S0 (callBm m a as S) fun rv S' L' => ∀ v, RepR W L0 L' v rv → Q v L'.H
/-- an object is changed -/
def ChgBm (W : Wd) (m : Bm) (x : V) (xs : List V) (H : Hp) (Q : VK) : Prop := ∃ (L : Lo) (p : Addr) (ob : MObj) (ds : List D) (q : MObj × D), L.H = H ∧ L.Z p ∧ x = .ref p ∧ RepO W L p ob ∧ RepL W L.Z L.H xs ds ∧ bmO m ob ds = some q ∧
  ∀ u v, ¬ Still u → RepO W (L.wr p u) p q.1 → (∀ n, RefsLt n q.1) → RepD W L.Z L.H v q.2 → Q v (L2.upd L.H p u)
/-- nothing is changed -/
def ReadBm (W : Wd) (m : Bm) (x : V) (xs : List V) (H : Hp) (Q : VK) : Prop := ∃ Z d ds rv, RepT W Z H x d ∧ RepTs W Z H xs ds ∧ bmD m d ds = some rv ∧ ∀ v H', Fresh W Z H H' v rv → Q v H'
theorem temps_tail {v : V} {a : RV} {vs : List V} {as : List RV} (h : (temps (v :: vs) (a :: as)).Nodup) : (temps vs as).Nodup := by
  rw [temps_cons] at h
  cases e : tempOf v a with
  | none => rw [e] at h; exact h
  | some p => rw [e] at h; exact (List.nodup_cons.mp h).2
theorem RepRs.datsM {L0 L : Lo} {S : Pk.St} (s : Stp L0 L) (o : Ok W L S) {vs : List V} {as : List RV} {ds : List D} (h : RepRs W L0 L vs as) (e : Pk.dats as = some ds) :
    ∃ L', L'.H = L.H ∧ L'.m = L.m ∧ Stp L0 L' ∧ Ok W L' S ∧ RepL W L'.Z L.H vs ds := by
  have h1 : ∀ b, (L.Z b ∧ b ∉ temps vs as) → L.Z b := fun b z => z.1
  have hm : ∀ a ∈ L.m, L.Z a ∧ a ∉ temps vs as := fun a m => ⟨o.mz a m, fun q => (temps_in h.all q).2.2 m⟩
  have h0 : ∀ b, L0.Z b → L.Z b ∧ b ∉ temps vs as := fun b z => ⟨s.zz b z, fun q => (temps_in h.all q).2.1 z⟩
  exact ⟨⟨fun b => L.Z b ∧ b ∉ temps vs as, L.m, L.H⟩, rfl, rfl, s.less h1 hm h0, o.less h1 hm, RepRs.datsAux h1 (fun b z => z.2) h.all e⟩
theorem bm_cases {m : Bm} {x : V} {xs : List V} (h : rBm W m x xs H Q) : ChgBm W m x xs H Q ∨ ReadBm W m x xs H Q := by
  obtain ⟨L0, S0, L, S, a, as, rfl, s0, o, q0, ⟨hall, hnd⟩, h⟩ := h
  cases hall with
  | cons r t =>
    have rd : ∀ {oo : Option D}, (∀ d, oo = some d → RepT W L.Z L.H x d) → Out W EF L0 S0 (lift (readBm m oo (looks S as)) S) (fun rv S' L' => ∀ v, RepR W L0 L' v rv → Q v L'.H) → ReadBm W m x xs L.H Q := by
      intro oo ho h
      obtain ⟨rv, e, h2⟩ := h.lifts
      unfold readBm at e
      split at e
      · rename_i d ds e1
        refine ⟨L.Z, d, ds, rv, ho d rfl, RepRs.looks o t e1, e, fun v H' fr => ?_⟩
        obtain ⟨L3, eH, s3, o3, r3, _⟩ := Fresh.done (E := fun _ _ _ => False) (P := fun _ _ _ => True) o fr (show Out W _ L S (.ok rv S) _ from fun _ _ _ _ => trivial)
        rw [← eH]
        exact h2 L3 (s0.trans s3) o3 q0 v (r3.from s0)
      · cases e
    have look : ∀ d, a.look S = some d → RepT W L.Z L.H x d := fun d e => r.look o e
    have flat : Out W EF L0 S0 (lift (readBm m (a.look S) (looks S as)) S) (fun rv S' L' => ∀ v, RepR W L0 L' v rv → Q v L'.H) → ReadBm W m x xs L.H Q := rd look
    cases a with
    | tmp ob => exact .inr (flat h)
    | v y =>
      cases y with
      | d d => exact .inr (flat h)
      | r i =>
        obtain ⟨p, em, ev⟩ := r
        subst ev
        unfold callBm at h
        dsimp only at h
        cases ec : S.cells[i]? with
        | none => rw [ec] at h; exact h.elim
        | some ob =>
          rw [ec] at h
          dsimp only at h
          have ro := o.cel i p ob em ec
          cases eb : (dats as).bind (bmO m ob) with
          | none =>
            rw [eb] at h
            exact .inr (rd (oo := ob.toD) (fun d e => ro.t e) h)
          | some q =>
            rw [eb] at h
            obtain ⟨ds, e1, e2⟩ := Option.bind_eq_some_iff.mp eb
            obtain ⟨L', eH, e5, s', o', rl⟩ := RepRs.datsM s0 o ⟨t, temps_tail hnd⟩ e1
            have em' : L'.m[i]? = some p := by rw [e5]; exact em
            have hp : p ∈ L'.m := List.mem_of_getElem? em'
            rw [← eH] at rl
            refine .inl ⟨L', p, ob, ds, q, eH, o'.mz p hp, rfl, o'.cel i p ob em' ec, rl, e2, fun u v hu hr hn rv => ?_⟩
            have ow : Ok W (L'.wr p u) { S with cells := S.cells.set i q.1 } := o'.wr em' hu hr
            have kw := keeps_wr (u := u) o' hp
            have h3 : Out W EF L0 S0 (.ok (dv q.2) { S with cells := S.cells.set i q.1 }) fun rv S' L' => ∀ v, RepR W L0 L' v rv → Q v L'.H := h
            exact h3 (L'.wr p u) (s'.trans (Stp.wr o' hp)) ow (q0.trans (SS.wr hn)) v (RepD.mono kw rv)
/-! ### each method -/
theorem no_read {m : Bm} (hm : m = .append ∨ m = .pop ∨ m = .clear) (d : D) (ds : List D) : bmD m d ds = none := by
  rcases hm with rfl | rfl | rfl <;> rfl
theorem no_chg {m : Bm} (hm : m = .count ∨ m = .get ∨ m = .join) (o : MObj) (ds : List D) : bmO m o ds = none := by
  rcases hm with rfl | rfl | rfl <;> rfl
theorem keeps_upd {Z : Addr → Prop} {H : Hp} {p : Addr} {u w : HO} (z : Z p) (hp : H p = some w) (hs : ¬ Still w) : Keeps Z Z H (L2.upd H p u) := by
  refine ⟨fun a o n e => ?_, fun a o e q => ?_, fun a z n => (n z).elim⟩
  · rw [upd_ne (fun q => n (by first | (rw [← q]; exact z) | (rw [q]; exact z)))]
    exact e
  · rw [upd_ne (fun r => ?_)]
    · exact e
    · have hb : a = p := by first | exact r | exact r.symm
      subst hb
      rw [e] at hp
      cases hp
      exact hs q
theorem seqIndex_nat {i : Int} {n : Nat} (h0 : 0 ≤ i) (h1 : i.toNat < n) : seqIndex? i n = some i.toNat := by
  unfold seqIndex?
  simp only [show ¬ i < 0 by omega, if_false]
  simp
  omega
theorem RepL.dropLast {Z : Addr → Prop} : ∀ {ds : List D} {vs : List V}, RepL W Z H vs ds → RepL W Z H vs.dropLast ds.dropLast
  | [], _, h => by cases h; exact .nil
  | [_], _, h => by cases h with | cons _ h2 => cases h2; exact .nil
  | _ :: _ :: _, _, h => by
    cases h with
    | cons h1 h2 =>
      have := RepL.dropLast h2
      cases h2 with
      | cons h3 h4 => exact .cons h1 this
theorem RepL.eraseIdx {Z : Addr → Prop} : ∀ {ds : List D} {vs : List V} (i : Nat), RepL W Z H vs ds → RepL W Z H (vs.eraseIdx i) (ds.eraseIdx i)
  | [], _, _, h => by cases h; exact .nil
  | _ :: _, _, 0, h => by cases h with | cons _ h2 => exact h2
  | _ :: _, _, i + 1, h => by cases h with | cons h1 h2 => exact .cons h1 (RepL.eraseIdx i h2)
theorem mb_append : MtR X "list.append" (rBm W .append) := by
  intro pins s σ H x xs v us Q I rx rxs h
  rcases bm_cases h with ⟨L, p, ob, ds, q, rfl, z, ex, ro, rl, e, k⟩ | ⟨Z, d, ds, rv, _, _, e, _⟩
  · have e : appO ob ds = some q := e
    unfold appO at e
    split at e
    · obtain ⟨hl, e⟩ := ite_some e
      subst e ex
      obtain ⟨vs, h1, h2⟩ := ro
      cases rl with
      | cons r1 rl =>
        cases rl
        refine mt_append pins s σ L.H _ _ v us Q I rx rxs ⟨p, vs, _, rfl, rfl, h1, by rw [h2.length, ← line_eq]; exact hl, ?_⟩
        exact k _ _ id ⟨_, upd_same, (h2.snoc r1).mono (keeps_upd z h1 id)⟩ (fun _ => trivial) .non
    · cases e
  · rw [no_read (.inl rfl)] at e
    cases e
theorem mb_clear : MtR X "list.clear" (rBm W .clear) := by
  intro pins s σ H x xs v us Q I rx rxs h
  rcases bm_cases h with ⟨L, p, ob, ds, q, rfl, z, ex, ro, rl, e, k⟩ | ⟨Z, d, ds, rv, _, _, e, _⟩
  · have e : clearO ob ds = some q := e
    unfold clearO at e
    split at e
    · cases e
      subst ex
      obtain ⟨vs, h1, h2⟩ := ro
      cases rl
      exact mt_clear pins s σ L.H _ _ v us Q I rx rxs ⟨p, vs, rfl, rfl, h1, k _ _ id ⟨_, upd_same, .nil⟩ (fun _ => trivial) .non⟩
    · cases e
  · rw [no_read (.inr (.inr rfl))] at e
    cases e
theorem mb_pop : MtR X "list.pop" (rBm W .pop) := by
  intro pins s σ H x xs v us Q I rx rxs h
  rcases bm_cases h with ⟨L, p, ob, ds, q, rfl, z, ex, ro, rl, e, k⟩ | ⟨Z, d, ds, rv, _, _, e, _⟩
  · have e : popO ob ds = some q := e
    subst ex
    cases ob with
    | dic _ => cases ds <;> cases e
    | ins _ _ => cases ds <;> cases e
    | lst es =>
      obtain ⟨vs, h1, h2⟩ := ro
      cases ds with
      | nil =>
        cases rl
        cases ey : es.getLast? with
        | none => simp only [popO, ey] at e; cases e
        | some y =>
          simp only [popO, ey] at e
          cases e
          have ey' : es[es.length - 1]? = some y := by rw [← List.getLast?_eq_getElem?]; exact ey
          obtain ⟨u, eu, ru⟩ := h2.get ey'
          refine mt_pop pins s σ L.H _ _ v us Q I rx rxs ⟨p, vs, u, rfl, rfl, h1, by rw [h2.length]; exact eu, ?_⟩
          exact k _ _ id ⟨_, upd_same, h2.dropLast.mono (keeps_upd z h1 id)⟩ (fun _ => trivial) ru
      | cons i ds =>
        cases ds with
        | cons _ _ => cases i <;> cases e
        | nil =>
          cases i <;> first | (cases e; done) | skip
          rename_i i _
          obtain ⟨hc, e⟩ := ite_some' e
          cases ey : es[i.toNat]? with
          | none => simp only [ey] at e; cases e
          | some y =>
            simp only [ey] at e
            cases e
            cases rl with
            | cons r1 rl =>
              cases rl
              cases r1
              obtain ⟨u, eu, ru⟩ := h2.get ey
              have hi := (List.getElem?_eq_some_iff.mp eu).1
              refine mt_popAt pins s σ L.H _ _ v us Q I rx rxs ⟨p, vs, i, i.toNat, u, rfl, rfl, h1, by omega, by omega, seqIndex_nat hc.1 hi, eu, ?_⟩
              exact k _ _ id ⟨_, upd_same, (h2.eraseIdx _).mono (keeps_upd z h1 id)⟩ (fun _ => trivial) ru
  · rw [no_read (.inr (.inl rfl))] at e
    cases e
theorem RepT.fix {Z : Addr → Prop} {v : V} {d : D} (h : RepT W Z H v d) (f : fixD d = true) : RepD W Z H v d := by
  cases d <;> first | exact h | cases f
theorem mb_get (hu : X.A.units + 1 < cLine) : MtR X "dict.get" (rBm W .get) := by
  intro pins s σ H x xs v us Q I rx rxs h
  rcases bm_cases h with ⟨L, p, ob, ds, q, rfl, z, ex, ro, rl, e, k⟩ | ⟨Z, d, ds, rv, hx, hxs, e, q⟩
  · rw [no_chg (.inr (.inl rfl))] at e
    cases e
  · have e : getO d ds = some rv := e
    unfold getO at e
    split at e
    · rename_i kvs kd xd e0
      obtain ⟨⟨hk, hf⟩, e⟩ := ite_some e
      subst e
      obtain ⟨key, ek⟩ := isKey_some hk
      obtain ⟨a, es, ea, hd, rk⟩ := hx
      subst ea
      obtain ⟨y, w, exs, hy, hw⟩ := hxs.two
      subst exs
      have ev := key_v ek hy
      subst ev
      cases rx
      obtain ⟨uy, uw, eus, ry, rw'⟩ := rxs.two
      subst eus
      have hg : DGet H a (kV key) (valV es key) := .inl ⟨es, key, hd, rfl, rfl⟩
      have hv := RepK.val ek rk
      refine d_get2 hu I hg ry rw' fun w' s' I' r' => ⟨_, H, I', r', q _ _ (Fresh.old ?_)⟩
      cases eg : dGet kd kvs with
      | none =>
        rw [hv.2 eg]
        exact hw.fix hf
      | some d =>
        obtain ⟨u, e1, ru⟩ := hv.1 d eg
        rw [e1]
        exact ru
    · cases e
theorem joinLen_ok {s : Str} {xs : List Str} (h : joinLen s xs ≤ line) : (xs.map (·.length)).sum + xs.length * s.length ≤ 16777216 := by
  have e : ∀ xs : List Str, joinLen s xs = (xs.map (·.length)).sum + xs.length * s.length := by
    intro xs
    induction xs with
    | nil => simp [joinLen]
    | cons x xs ih =>
      unfold joinLen at ih ⊢
      rw [List.map_cons, List.sum_cons, ih, List.map_cons, List.sum_cons, List.length_cons, Nat.succ_mul]
      omega
  rw [← e]
  exact h
theorem mb_join (hW : W.K = X.K) : MtR X "str.join" (rBm W .join) := by
  intro pins s σ H x xs v us Q I rx rxs h
  rcases bm_cases h with ⟨L, p, ob, ds, q, rfl, z, ex, ro, rl, e, k⟩ | ⟨Z, d, ds, rv, hx, hxs, e, q⟩
  · rw [no_chg (.inr (.inr rfl))] at e
    cases e
  · have e : joinO d ds = some rv := e
    unfold joinO at e
    split at e
    · split at e
      · rename_i es xs' exs
        obtain ⟨hl, e⟩ := ite_some e
        subst e
        obtain ⟨y, ey, hy⟩ := hxs.one
        subst ey
        obtain ⟨a, vs, ea, ha, ra⟩ := hy
        subst ea
        rw [ra.strsOf exs] at ha
        exact mt_join pins s σ H _ _ v us Q I rx rxs ⟨_, a, xs', hx.str, rfl, .inl (SqL.of ha), joinLen_ok hl, q _ _ (Fresh.str _)⟩
      · cases e
    · split at e
      · rename_i es xs' exs
        obtain ⟨hl, e⟩ := ite_some e
        subst e
        obtain ⟨y, ey, hy⟩ := hxs.one
        subst ey
        obtain ⟨a, vs, ea, ha, ra⟩ := hy.tup
        subst ea
        rw [ra.strsOf exs] at ha
        exact mt_join pins s σ H _ _ v us Q I rx rxs ⟨_, a, xs', hx.str, rfl, .inr (hW ▸ ha), joinLen_ok hl, q _ _ (Fresh.str _)⟩
      · cases e
    · cases e
theorem countP_map {f : Value → PyData} {x : PyData} : ∀ (its : List Value), its.countP (fun u => PyData.eqv (f u) x) = (its.map f).countP fun z => PyData.eqv z x
  | [] => rfl
  | u :: us => by rw [List.map_cons, List.countP_cons, List.countP_cons, countP_map us]
theorem countP_pds (x : D) : ∀ ds : List D, ((pds ds).countP fun z => PyData.eqv z x.pd) = ds.countP fun y => PyData.eqv y.pd x.pd
  | [] => rfl
  | y :: ds => by rw [pds, List.countP_cons, List.countP_cons, countP_pds x ds]
theorem mb_count (hW : W.K = X.K) (hu : X.A.units + 65 < cLine) : MtR X "list.count" (rBm W .count) := by
  intro pins s σ H x xs v us Q I rx rxs h
  rcases bm_cases h with ⟨L, p, ob, ds, q, rfl, z, ex, ro, rl, e, k⟩ | ⟨Z, d, ds, rv, hx, hxs, e, q⟩
  · rw [no_chg (.inl rfl)] at e
    cases e
  · have e : countO d ds = some rv := e
    unfold countO at e
    split at e
    · rename_i es xd e0
      obtain ⟨n, e1, e2⟩ := Option.map_eq_some_iff.mp e
      subst e2
      obtain ⟨⟨k1, k2⟩, e1⟩ := ite_some (show (if okD xd = true ∧ okD (.lst es) = true then some (es.countP fun y => PyData.eqv y.pd xd.pd) else none) = some n from e1)
      subst e1
      obtain ⟨y, ey, hy⟩ := hxs.one
      subst ey
      obtain ⟨a, vs, ea, ha, ra⟩ := hx
      subst ea
      cases rx
      obtain ⟨uy, eus, ry⟩ := rxs.one
      subst eus
      have hyd := hy.dp (okD_iff k1).1
      have hld := RepL.dp (ok_lst k2).1 ra
      rw [hW] at hyd hld
      obtain ⟨bs, r1⟩ := Dp.reads I _ y uy hyd ry
      obtain ⟨its, rv, ⟨⟨cls, dd, data, sls⟩, m, ho, hc, hdn, hdt⟩, hlen⟩ := I.list (SqL.of (K := X.K) ha)
      simp only at hc hdt
      subst hc hdt
      obtain ⟨as, h4⟩ := Dp.readsAll I _ _ its hld rv
      have hxs : PyData.canLayAll0 (pds es) = true := SeqAt.canLay_of_shaped (ok_lst k2).2
      have hroom : X.A.units + 1 + min (PyData.depthAll (pds es)) xd.pd.depth < cLine := room_in_shaped (okD_iff k1).2 hu
      have hmap : its.map (SeqAt.readOf s.heap) = pds es := SeqAt.readsAll_map (pds es) its as hxs h4
      refine call_meets PySem.F.slot_list_count ⟨_, ho, rfl⟩ PySem.F.entry_list_count (PySem.F.args_list_count_2 _ _)
        (SeqAt.list_countAt a its.toArray m dd sls uy (fun u => PyData.eqv (SeqAt.readOf s.heap u) xd.pd)) ⟨ho, SeqAt.items_eqAt (vs := its.toArray) (show ReadsAll s.heap its.toArray.toList (pds es) as from h4) r1 hxs (SeqAt.canLay_of_shaped (okD_iff k1).2) hroom, ?_⟩
      refine ⟨.int _, H, I.tok _, ⟨_, rfl⟩, ?_⟩
      have e3 : its.toArray.toList.countP (fun u => PyData.eqv (SeqAt.readOf s.heap u) xd.pd) = es.countP fun y => PyData.eqv y.pd xd.pd := by
        rw [List.toList_toArray, countP_map its, hmap, countP_pds]
      rw [e3]
      exact q _ _ (Fresh.int _)
    · cases e
/-! ### the node -/
def bkTy : Bk → String
  | .lst => "list"
  | .dic => "dict"
  | .str => "str"
/-- the value is of that kind -/
def IsB (K : PySem.W.Frag) (k : Bk) (x : V) (H : Hp) : Prop := match k with
  | .lst => ∃ a vs, x = .ref a ∧ H a = some (.lst vs)
  | .dic => ∃ a es, x = .ref a ∧ Rd H a (.dK es)
  | .str => ∃ z, x = .str z
theorem isB_at {pins : List (Addr × Obj)} {σ : L2.St} {H : Hp} {s : Shared} {k : Bk} {x : V} {v : Value} (I : Inv X pins σ H s) (r : RelV x v) (h : IsB X.K k x H) : s.TypeIs v (bkTy k) ∧ ∀ a, v = .ref a → ∃ ob, s.heap.get? a = some ob ∧ ob.dict = none := by
  cases k with
  | lst =>
    obtain ⟨a, vs, rfl, ha⟩ := h
    exact tyV_is I r (.inl ⟨rfl, vs, SqL.of ha⟩)
  | dic =>
    obtain ⟨a, vs, rfl, ha⟩ := h
    cases r
    obtain ⟨t1, t2, _⟩ := isD_at I (.inl ⟨vs, ha⟩)
    exact ⟨t1, t2⟩
  | str =>
    obtain ⟨z, rfl⟩ := h
    exact tyV_is I r rfl
def BmPk (X : Cx) (W : Wd) (m : Bm) (name : Str) (k : Bk) : Prop := ∃ id, PlainAttrs (bkTy k) ∧ Slot (bkTy k) name id ∧ typeOf (.builtin id) = pure (.type "method_descriptor") ∧ MtR X id (rBm W m)
def tBmP (X : Cx) (W : Wd) (m : Bm) (to : TE) (t : TA) : TE := fun σ H Q => to σ H fun x H1 => ∃ k, bmOk k m = true ∧ IsB X.K k x H1 ∧ t σ H1 fun xs H2 => rBm W m x xs H2 Q
theorem pe_bmP {o : Expr} {es : List Expr} {m : Bm} {name : Str} {apos pos : Pos} {to : TE} {t : TA} (hP : ∀ k, bmOk k m = true → BmPk X W m name k) (ho : PE X o to) (ha : PA X es t) (h0 : es = [] → ∀ σ H Q, t σ H Q → Q [] H) (hb : baseOk o = true) (hn : nice o = true)
    (hs : ∀ e ∈ es, nice e = true) (hl : es.length < 30) (hp : (apos.endLine == pos.line) = true) : PE X (.Call (.Attribute o name apos) es [] pos) (tBmP X W m to t) := by
  refine ⟨fun pins s σ H Q I h => ?_⟩
  have hfew : ((backTo pos (starEach es X.env)).all (fun x => !x.1) && (backToKw pos (keywordEach [] X.env)).all (fun x => x.1.isSome)
      && decide (es.length + ([] : List Keyword).length + (if ([] : List Keyword).isEmpty then 0 else 1) < 30)) = true := by
    rw [stars_none hs, show backToKw pos (keywordEach [] X.env) = [] from rfl]
    simpa using hl
  refine wpAny_Call_method_late (base_ok hb hn name X.env) hfew hp rfl (thn (ho.run pins s σ H _ I h) fun v s1 ⟨x, H1, I1, r1, k, hk, ty, q1⟩ => ?_)
  obtain ⟨id, pa, slot, hty, hm⟩ := hP k hk
  obtain ⟨h1, h2⟩ := isB_at I1 r1 ty
  refine ⟨bkTy k, id, pa, slot, hty, h1, h2, ?_⟩
  cases es with
  | nil => exact Calls.callWith_builtin rfl (PySem.evalArgs_none (hm pins s1 σ H1 x [] v [] Q I1 r1 .nil (h0 rfl _ _ _ q1)))
  | cons e es =>
    have hpl := stars_nice (fun x q => hs x (List.mem_cons_of_mem e q)) X.env pos
    have hst := nice_star (hs e (List.mem_cons_self ..)) es X.env
    have hA := ha.run pos pins s1 σ H1 _ I1 q1
    rw [hst] at hA ⊢
    refine Calls.callWith_builtin (by show (false || (backTo pos (starEach es X.env)).any (·.1)) = false; rw [hpl] <;> rfl) (Calls.evalArgs_plain ?_)
    exact thn hA fun us s2 ⟨vs, H2, I2, r2, q2⟩ => hm pins s2 σ H2 x vs v us Q I2 r1 r2 q2
theorem isB_of {K : PySem.W.Frag} {L0 L : Lo} {S : Pk.St} {v : V} {a : RV} {k : Bk} (hL : Ok W L S) (r : RepR W L0 L v a) (e : bkOf S a = some k) : IsB K k v L.H := by
  cases a with
  | v x =>
    cases x with
    | d d =>
      cases d <;> first | (cases e; done) | skip
      · cases e
        cases (show RepD W L.Z L.H v _ from r)
        exact ⟨_, rfl⟩
      · cases e
        cases (show RepD W L.Z L.H v _ from r) with
        | lst h0 h1 h2 => exact ⟨_, _, rfl, h1⟩
      · cases e
        cases (show RepD W L.Z L.H v _ from r) with
        | dic h0 h1 h2 => exact ⟨_, _, rfl, h1⟩
    | r i =>
      obtain ⟨p, em, ev⟩ := r
      obtain ⟨o, eo, ro⟩ := hL.cell em
      have e : (match S.cells[i]? with | some (.lst _) => some Bk.lst | some (.dic _) => some Bk.dic | _ => none) = some k := e
      rw [eo] at e
      cases o with
      | lst ds =>
        cases e
        obtain ⟨vs, h1, _⟩ := ro
        exact ⟨p, vs, ev, h1⟩
      | dic kvs =>
        cases e
        obtain ⟨vs, h1, _⟩ := ro
        exact ⟨p, vs, ev, .inl h1⟩
      | ins _ _ => cases e
  | tmp o =>
    obtain ⟨p, ev, _, _, _, ro⟩ := r
    cases o with
    | lst ds =>
      cases e
      obtain ⟨vs, h1, _⟩ := ro
      exact ⟨p, vs, ev, h1⟩
    | dic kvs =>
      cases e
      obtain ⟨vs, h1, _⟩ := ro
      exact ⟨p, vs, ev, .inl h1⟩
    | ins _ _ => cases e
theorem RdE.bm {m : Bm} {mo : ME} {ms : List ME} {tx : Tx} (hW : W.K = X.K) (h : RdE W WF (evE tx (.bm mo m ms)) σ H Q) : tBmP X W m (RdE W WF (evE tx mo)) (RdA W WF (evL tx ms)) σ H Q := by
  obtain ⟨L, ρ, S, rfl, hL, hE, h⟩ := h
  rw [evE] at h
  refine ⟨L, ρ, S, rfl, hL, hE, h.bnd0.imp fun x S1 L1 s1 o1 q1 h1 v r1 => ?_⟩
  have h1 : Out W EF L S (match bkOf S1 x with
    | some k => if bmOk k m = true then bnd (evL tx ms ρ) (fun as => callBm m x as) S1 else .err
    | none => .err) fun rv S' L' => ∀ v, RepR W L L' v rv → Q v L'.H := h1
  cases ec : bkOf S1 x with
  | none => rw [ec] at h1; exact h1.elim
  | some k =>
    rw [ec] at h1
    dsimp only at h1
    split at h1
    · rename_i hk
      refine ⟨k, hk, isB_of o1 r1 ec, L1, ρ, S1, rfl, o1, hE.step s1, ?_⟩
      · refine (Out.later s1 q1 h1.bnd1).imp fun as S2 L2 s2 o2 q2 h4 vs r2 => ?_
        exact ⟨L, S, L2, S2, x, as, rfl, s1.trans s2, o2, q1.trans q2, RepRs.cons s1 s2 r1 r2, h4⟩
    · exact h1.elim
end
end Pk
end
section
set_option Elab.async false
set_option linter.all false
set_option maxRecDepth 100000
/-! Keys, the unlike ones of a row, and their order: plain. -/
namespace Pk
open PySem

mutual
/-- the key that a datum is -/
def D.nk : D → NestedKey
  | .int i => .num i
  | .str s => .text s
  | .tup ds => .tup (nks ds)
  | _ => .none
def nks : List D → List NestedKey
  | [] => []
  | x :: r => x.nk :: nks r
end
mutual
theorem nk_inj : ∀ {x y : D}, x.key = true → y.key = true → x.nk = y.nk → x = y
  | .int i, y, _, hy, e => by
    cases y <;> first | (cases hy; done) | (injection e with e; rw [e]) | (cases e; done)
  | .str s, y, _, hy, e => by
    cases y <;> first | (cases hy; done) | (injection e with e; rw [e]) | (cases e; done)
  | .tup ds, y, hx, hy, e => by
    cases y with
    | tup es =>
      injection e with e
      rw [nks_inj hx hy e]
    | _ => first | (cases hy; done) | (cases e; done)
theorem nks_inj : ∀ {xs ys : List D}, keysOk xs = true → keysOk ys = true → nks xs = nks ys → xs = ys
  | [], [], _, _, _ => rfl
  | [], _ :: _, _, _, e => by cases e
  | _ :: _, [], _, _, e => by cases e
  | x :: xs, y :: ys, hx, hy, e => by
    have hx' := Bool.and_eq_true_iff.mp hx
    have hy' := Bool.and_eq_true_iff.mp hy
    injection e with e1 e2
    rw [nk_inj hx'.1 hy'.1 e1, nks_inj hx'.2 hy'.2 e2]
end
mutual
theorem nk_depth : ∀ x : D, x.nk.depth ≤ x.nesting
  | .tup ds => by
    have := nks_depth ds
    show NestedKey.depthAll (nks ds) + 1 ≤ nestings ds + 1
    omega
  | .int _ => Nat.le_refl _
  | .str _ => Nat.le_refl _
  | .non => Nat.le_refl _
  | .bl _ => Nat.le_refl _
  | .lst _ => Nat.zero_le _
  | .dic _ => Nat.zero_le _
  | .ins _ _ => Nat.zero_le _
  | .exc _ _ => Nat.zero_le _
  | .fn _ => Nat.zero_le _
  | .scr _ => Nat.zero_le _
theorem nks_depth : ∀ xs : List D, NestedKey.depthAll (nks xs) ≤ nestings xs
  | [] => Nat.le_refl _
  | x :: r => by
    have h1 := nk_depth x
    have h2 := nks_depth r
    show max x.nk.depth (NestedKey.depthAll (nks r)) ≤ max x.nesting (nestings r)
    omega
end
theorem nesting_mem : ∀ {ds : List D} {x : D}, x ∈ ds → x.nesting ≤ nestings ds
  | y :: r, x, m => by
    show x.nesting ≤ max y.nesting (nestings r)
    rcases List.mem_cons.mp m with rfl | m
    · omega
    · have := nesting_mem m
      omega
theorem keysOk_mem : ∀ {ds : List D}, keysOk ds = true → ∀ x ∈ ds, x.key = true
  | y :: r, h, x, m => by
    have h' := Bool.and_eq_true_iff.mp h
    rcases List.mem_cons.mp m with rfl | m
    · exact h'.1
    · exact keysOk_mem h'.2 x m
mutual
theorem key_eqv : ∀ {x y : D}, x.key = true → y.key = true → (PyData.eqv x.pd y.pd = true ↔ x = y)
  | .int i, y, _, hy => by
    cases y with
    | int j => simp [D.pd, PyData.eqv]
    | str _ => simp [D.pd, PyData.eqv]
    | tup _ => simp [D.pd, PyData.eqv]
    | _ => cases hy
  | .str s, y, _, hy => by
    cases y with
    | int j => simp [D.pd, PyData.eqv]
    | str _ => simp [D.pd, PyData.eqv]
    | tup _ => simp [D.pd, PyData.eqv]
    | _ => cases hy
  | .tup ds, y, hx, hy => by
    cases y with
    | int j => simp [D.pd, PyData.eqv]
    | str _ => simp [D.pd, PyData.eqv]
    | tup es =>
      have := keys_eqv (xs := ds) (ys := es) hx hy
      simp [D.pd, PyData.eqv, this]
    | _ => cases hy
theorem keys_eqv : ∀ {xs ys : List D}, keysOk xs = true → keysOk ys = true → (PyData.eqvAll (pds xs) (pds ys) = true ↔ xs = ys)
  | [], [], _, _ => by simp [pds, PyData.eqvAll]
  | [], _ :: _, _, _ => by simp [pds, PyData.eqvAll]
  | _ :: _, [], _, _ => by simp [pds, PyData.eqvAll]
  | x :: xs, y :: ys, hx, hy => by
    have hx' := Bool.and_eq_true_iff.mp hx
    have hy' := Bool.and_eq_true_iff.mp hy
    have h1 := key_eqv hx'.1 hy'.1
    have h2 := keys_eqv hx'.2 hy'.2
    simp [pds, PyData.eqvAll, h1, h2]
end
theorem any_eqv {acc : List D} {x : D} (ha : ∀ y ∈ acc, y.key = true) (hx : x.key = true) : (acc.any fun y => PyData.eqv y.pd x.pd) = true ↔ x ∈ acc := by
  rw [List.any_eq_true]
  constructor
  · rintro ⟨y, m, e⟩
    rw [← (key_eqv (ha y m) hx).mp e]
    exact m
  · intro m
    exact ⟨x, m, (key_eqv hx hx).mpr rfl⟩
theorem firsts_spec : ∀ {ds acc : List D}, (∀ y ∈ acc, y.key = true) → keysOk ds = true → acc.Nodup → (firsts acc ds).Nodup ∧ ∀ x, x ∈ firsts acc ds ↔ x ∈ acc ∨ x ∈ ds
  | [], acc, _, _, nd => ⟨nd, fun x => by simp [firsts]⟩
  | x :: r, acc, ha, hk, nd => by
    have hk' := Bool.and_eq_true_iff.mp hk
    unfold firsts
    by_cases c : (acc.any fun y => PyData.eqv y.pd x.pd) = true
    · rw [if_pos c]
      have m := (any_eqv ha hk'.1).mp c
      obtain ⟨h1, h2⟩ := firsts_spec ha hk'.2 nd
      refine ⟨h1, fun z => (h2 z).trans ?_⟩
      rw [List.mem_cons]
      constructor
      · rintro (h | h)
        · exact .inl h
        · exact .inr (.inr h)
      · rintro (h | rfl | h)
        · exact .inl h
        · exact .inl m
        · exact .inr h
    · rw [if_neg c]
      have m : x ∉ acc := fun m => c ((any_eqv ha hk'.1).mpr m)
      obtain ⟨h1, h2⟩ := firsts_spec (acc := acc ++ [x]) (ds := r) (fun y h => by
        rcases List.mem_append.mp h with h | h
        · exact ha y h
        · rw [List.mem_singleton.mp h]; exact hk'.1) hk'.2 (List.nodup_append.mpr ⟨nd, List.nodup_cons.mpr ⟨by simp, List.nodup_nil⟩, fun a h b h2 => by
          rw [List.mem_singleton.mp h2]
          rintro rfl
          exact m h⟩)
      refine ⟨h1, fun z => (h2 z).trans ?_⟩
      rw [List.mem_append, List.mem_singleton, List.mem_cons]
      constructor
      · rintro ((h | h) | h)
        · exact .inl h
        · exact .inr (.inl h)
        · exact .inr (.inr h)
      · rintro (h | h | h)
        · exact .inl (.inl h)
        · exact .inl (.inr h)
        · exact .inr h
theorem firsts_nil {ds : List D} (hk : keysOk ds = true) : (firsts [] ds).Nodup ∧ ∀ x, x ∈ firsts [] ds ↔ x ∈ ds := by
  obtain ⟨h1, h2⟩ := firsts_spec (acc := []) (fun y m => (by cases m)) hk List.nodup_nil
  exact ⟨h1, fun x => by rw [h2]; simp⟩
/-! ### the order -/
theorem toks_key {x y : D} (hx : x.key = true) (hy : y.key = true) (al : W.alike x.pd y.pd = true) (e : W.keyToks x.pd = W.keyToks y.pd) : x = y := by
  refine (key_eqv hx hy).mp ?_
  cases c : PyData.eqv x.pd y.pd with
  | true => rfl
  | false =>
    have h := (W.toks_eqv x.pd y.pd al).2 c
    have h1 := h [] [Sum.inl 0]
    have h2 := h [Sum.inl 0] []
    rw [e, W.lex_pre] at h1 h2
    rw [← h2] at h1
    exact absurd h1 (by decide)
theorem sort_perm {ds es : List D} (p : ds.Perm es) (hk : ∀ x ∈ es, x.key = true) (al : W.AllAlike (es.map D.pd)) : ds.mergeSort (W.dataLe false D.pd) = es.mergeSort (W.dataLe false D.pd) := by
  have tot := W.sortLe_total (PyProof.Rows.listOrd PyProof.Rows.itemOrd) false fun d : D => W.keyToks d.pd
  refine List.Perm.eq_of_pairwise (le := fun a b => W.dataLe false D.pd a b = true) ?_ (W.sort_pairwise tot ds) (W.sort_pairwise tot es) (((List.mergeSort_perm ds _).trans p).trans (List.mergeSort_perm es _).symm)
  intro a b ha hb h1 h2
  have ma : a ∈ es := p.mem_iff.mp ((List.mergeSort_perm ds _).mem_iff.mp ha)
  have mb : b ∈ es := (List.mergeSort_perm es _).mem_iff.mp hb
  have g1 : (!PyProof.Rows.lexLt PyProof.Rows.itemOrd (W.keyToks b.pd) (W.keyToks a.pd)) = true := h1
  have g2 : (!PyProof.Rows.lexLt PyProof.Rows.itemOrd (W.keyToks a.pd) (W.keyToks b.pd)) = true := h2
  rw [Bool.not_eq_true'] at g1 g2
  refine toks_key (hk a ma) (hk b mb) (al _ (List.mem_map.mpr ⟨a, ma, rfl⟩) _ (List.mem_map.mpr ⟨b, mb, rfl⟩)) ?_
  exact (PyProof.Rows.listOrd PyProof.Rows.itemOrd).total _ _ g2 g1
end Pk
end
section
set_option Elab.async false
set_option linter.all false
set_option maxRecDepth 100000
set_option maxHeartbeats 2000000
/-! sorted(set(xs)), len(set(xs)) over data. -/
namespace Pk
open PySem L2 PyProof.Rows

mutual
theorem reads_key {h : Heap} : ∀ (d : D) (u : Value) (as : List Addr), d.key = true → Reads h u d.pd as → NestedIs h d.nk u
  | .int i, _, _, _, r => by cases (show Reads h _ (.int i) _ from r); exact .int _ _
  | .str i, _, _, _, r => by cases (show Reads h _ (.str i) _ from r); exact .text _ _
  | .tup ds, _, _, k, r => by
    cases (show Reads h _ (.tuple (pds ds)) _ from r) with
    | tuple h1 h2 h3 h4 => exact .tup h1 h2 h3 (reads_keys ds _ _ k h4)
theorem reads_keys {h : Heap} : ∀ (ds : List D) (us : List Value) (as : List Addr), keysOk ds = true → ReadsAll h us (pds ds) as → NestedAll h (nks ds) us
  | [], _, _, _, r => by cases (show ReadsAll h _ [] _ from r); exact .nil
  | d :: ds, _, _, k, r => by
    have k' := Bool.and_eq_true_iff.mp k
    cases (show ReadsAll h _ (d.pd :: pds ds) _ from r) with
    | cons r1 r2 => exact .cons (reads_key d _ _ k'.1 r1) (reads_keys ds _ _ k'.2 r2)
end
theorem each_perm {α β : Type} {R : α → β → Prop} {out vs : List α} (p : out.Perm vs) : ∀ {bs : List β}, W.EachIs R vs bs → ∃ bs' : List β, bs'.Perm bs ∧ W.EachIs R out bs' := by
  induction p with
  | nil => exact fun {bs} e => ⟨bs, List.Perm.refl _, e⟩
  | cons x _ ih =>
    intro bs e
    cases e with
    | cons e1 e2 =>
      obtain ⟨cs, q, r⟩ := ih e2
      exact ⟨_ :: cs, q.cons _, .cons e1 r⟩
  | swap x y l =>
    intro bs e
    cases e with
    | cons e1 e2 =>
      cases e2 with
      | cons e3 e4 => exact ⟨_ :: _ :: _, List.Perm.swap _ _ _, .cons e3 (.cons e1 e4)⟩
  | trans _ _ i1 i2 =>
    intro bs e
    obtain ⟨cs, q, r⟩ := i2 e
    obtain ⟨es, q2, r2⟩ := i1 r
    exact ⟨es, q2.trans q, r2⟩
theorem each_choose {α β : Type} {R : α → β → Prop} : ∀ {vs : List α}, (∀ v ∈ vs, ∃ b, R v b) → ∃ bs : List β, W.EachIs R vs bs
  | [], _ => ⟨[], .nil⟩
  | v :: vs, h => by
    obtain ⟨b, e⟩ := h v List.mem_cons_self
    obtain ⟨bs, es⟩ := each_choose fun u m => h u (List.mem_cons_of_mem _ m)
    exact ⟨b :: bs, .cons e es⟩
section
variable {X : Cx} {W : Wd}
/-- an item and its datum -/
def ItemOf (W : Wd) (Z : Addr → Prop) (H : Hp) (u : Value) (z : V × D) : Prop := RelV z.1 u ∧ RepD W Z H z.1 z.2
/-- the set at a of the unlike ones of ds -/
def SetOfD (W : Wd) (X : Cx) (Z : Addr → Prop) (H : Hp) (h : Heap) (a : Addr) (ds : List D) : Prop :=
  ∃ L es ep t zs, Laid X.w h a L es ep t ∧ PySem.W.EachIs (ItemOf W Z H) (L.map (·.1)) zs ∧ (zs.map (·.2)).Perm (firsts [] ds)
theorem items_of {Z : Addr → Prop} {H : Hp} {pins : List (Addr × Obj)} {s : Shared} {σ : L2.St} (hW : W.K = X.K) (I : Inv X pins σ H s) : ∀ {ds : List D} {vs : List V} {us : List Value}, RepL W Z H vs ds → Vals vs us → flats ds = true → keysOk ds = true →
    ∃ ks : List El, us = ks.map (·.1) ∧ ks.map (·.2) = ds.map D.nk ∧ ∀ p ∈ ks, NestedIs s.heap p.2 p.1 ∧ ∃ z : V × D, ItemOf W Z H p.1 z ∧ z.2 ∈ ds ∧ p.2 = z.2.nk
  | [], _, _, h, r, _, _ => by
    cases h
    cases r
    exact ⟨[], rfl, rfl, fun p m => (by cases m)⟩
  | d :: ds, _, _, h, r, f, k => by
    cases h with
    | cons h1 h2 =>
      cases r with
      | @cons v u vs us r1 r2 =>
        have f' := Bool.and_eq_true_iff.mp f
        have k' := Bool.and_eq_true_iff.mp k
        obtain ⟨ks, e1, e2, e3⟩ := items_of hW I h2 r2 f'.2 k'.2
        obtain ⟨as, rd⟩ := Dp.reads I _ _ _ (hW ▸ RepD.dp f'.1 h1) r1
        refine ⟨(u, d.nk) :: ks, by rw [List.map_cons, e1], by rw [List.map_cons, List.map_cons, e2], fun p m => ?_⟩
        rcases List.mem_cons.mp m with rfl | m
        · exact ⟨reads_key d _ as k'.1 rd, (_, d), ⟨r1, h1⟩, List.mem_cons_self, rfl⟩
        · obtain ⟨g1, z, g2, g3, g4⟩ := e3 p m
          exact ⟨g1, z, g2, List.mem_cons_of_mem _ g3, g4⟩
theorem had_perm {Z : Addr → Prop} {H : Hp} {ds : List D} {ks L : List El} (k : keysOk ds = true) (e2 : ks.map (·.2) = ds.map D.nk) (e3 : ∀ p ∈ ks, ∃ z : V × D, ItemOf W Z H p.1 z ∧ z.2 ∈ ds ∧ p.2 = z.2.nk) (nd : (L.map (·.2)).Nodup) (g : Had ks ks.length L) :
    ∃ zs, PySem.W.EachIs (ItemOf W Z H) (L.map (·.1)) zs ∧ (zs.map (·.2)).Perm (firsts [] ds) := by
  rw [show Had ks ks.length L ↔ Had ks ks.length L from Iff.rfl] at g
  have sub : ∀ p ∈ L, p ∈ ks := fun p m => List.mem_of_mem_take (g.sub p m)
  obtain ⟨zs, ez⟩ := each_choose (R := fun (p : El) (z : V × D) => ItemOf W Z H p.1 z ∧ z.2 ∈ ds ∧ p.2 = z.2.nk) fun p m => e3 p (sub p m)
  have all : ∀ {L : List El} {zs : List (V × D)}, PySem.W.EachIs (fun (p : El) (z : V × D) => ItemOf W Z H p.1 z ∧ z.2 ∈ ds ∧ p.2 = z.2.nk) L zs → PySem.W.EachIs (ItemOf W Z H) (L.map (·.1)) zs ∧ L.map (·.2) = (zs.map (·.2)).map D.nk ∧ ∀ x ∈ zs.map (·.2), x ∈ ds := by
    intro L zs e
    induction e with
    | nil => exact ⟨.nil, rfl, fun x m => (by cases m)⟩
    | cons h _ ih =>
      obtain ⟨i1, i2, i3⟩ := ih
      refine ⟨.cons h.1 i1, by rw [List.map_cons, List.map_cons, List.map_cons, i2, h.2.2], fun x m => ?_⟩
      rcases List.mem_cons.mp m with rfl | m
      · exact h.2.1
      · exact i3 x m
  obtain ⟨a1, a2, a3⟩ := all ez
  refine ⟨zs, a1, ?_⟩
  rw [a2] at nd
  have nd2 : (zs.map (·.2)).Nodup := List.Pairwise.of_map D.nk (fun _ _ ne e => ne (congrArg D.nk e)) nd
  obtain ⟨f1, f2⟩ := firsts_nil k
  refine (List.perm_ext_iff_of_nodup nd2 f1).mpr fun x => ?_
  rw [f2]
  refine ⟨a3 x, fun m => ?_⟩
  have h1 : x.nk ∈ ks.map (·.2) := by rw [e2]; exact List.mem_map.mpr ⟨x, m, rfl⟩
  obtain ⟨p, mp, ep⟩ := List.mem_map.mp h1
  have h2 := g.all p (by rw [List.take_length]; exact mp)
  rw [ep, a2] at h2
  obtain ⟨y, my, ey⟩ := List.mem_map.mp h2
  rw [← nk_inj (keysOk_mem k y (a3 y my)) (keysOk_mem k x m) ey]
  exact my
theorem setOk_iff {ds : List D} (h : setOk ds = true) : keysOk ds = true ∧ okD (.lst ds) = true ∧ (((∀ d ∈ ds, d.isStr = true) ∧ ds.length < 4000) ∨ ((∀ d ∈ ds, d.isTup = true) ∧ nestings ds ≤ 7 ∧ ds.length < 60)) := by
  unfold setOk at h
  simp only [Bool.and_eq_true, Bool.or_eq_true, List.all_eq_true, decide_eq_true_eq] at h
  exact ⟨h.1.1, h.1.2, h.2.imp id fun q => ⟨q.1.1, q.1.2, q.2⟩⟩
/-- set(xs) -/
theorem set_made (hW : W.K = X.K) (hc : X.calm = true) (hu : X.A.units + 70 < cLine) {Z : Addr → Prop} {H : Hp} {pins : List (Addr × Obj)} {s : Shared} {σ : L2.St} {x : V} {u : Value} {Q : Value → Shared → Prop} {ds : List D} (I : Inv X pins σ H s) (r : RelV x u)
    (hx : RepT W Z H x (.lst ds) ∨ RepT W Z H x (.tup ds)) (k : setOk ds = true) (q : ∀ h' tk a, (∀ b o, s.heap.get? b = some o → h'.get? b = some o) → SetOfD W X Z H h' a ds → Q (.ref a) { s with heap := h', toks := tk }) :
    wpAny (model X.prog X.w) X.A (call (.type "set") [u]) Q X.xe s := by
  obtain ⟨k1, k2, k3⟩ := setOk_iff k
  have fl := (ok_lst k2).1
  -- by the kind of the members
  have by_kind : ∀ {its : List Value} {vs : List V} {l : Addr}, RepL W Z H vs ds → Vals vs its → (s.heap.IsList l its.toArray ∨ s.heap.IsTuple l its.toArray) → wpAny (model X.prog X.w) X.A (call (.type "set") [.ref l]) Q X.xe s := by
    intro its vs l rl rv hl
    obtain ⟨ks, e1, e2, e3⟩ := items_of hW I rl rv fl k1
    have len : ks.length = ds.length := by rw [← List.length_map (f := (·.2)), e2, List.length_map]
    have dep : ∀ p ∈ ks, nestings ds ≤ 8 → p.2.depth ≤ 8 := fun p m hn => by
      obtain ⟨_, z, _, g3, g4⟩ := e3 p m
      have h1 := nk_depth z.2
      have h2 := nesting_mem g3
      rw [g4]
      omega
    have fin : ∀ {good : El → Prop} {T : Heap → Addr → List El → Prop} {most : Nat}, SetKit X.prog X.w good T most → ks.length < most → (∀ p ∈ ks, good p ∧ p.2.depth ≤ 8) → wpAny (model X.prog X.w) X.A (call (.type "set") [.ref l]) Q X.xe s := by
      intro good T most K few hg
      have last : ∀ h' tk L, T h' s.heap.objs.size L → Had ks ks.length L → (∀ b o, s.heap.get? b = some o → h'.get? b = some o) → Q (.ref s.heap.objs.size) { s with heap := h', toks := tk } := by
        intro h' tk L hT g kp
        obtain ⟨es, ep, t, R⟩ := K.laid hT
        obtain ⟨zs, z1, z2⟩ := had_perm k1 e2 (fun p m => (e3 p m).2) R.nd g
        exact q h' tk _ kp ⟨L, es, ep, t, zs, R, z1, z2⟩
      rcases hl with hl | hl
      · exact set_of_list K (I.ok.hd hc) hl (by simpa using e1) (fun p m => ⟨(hg p m).1, (e3 p m).1, (hg p m).2⟩) few (by omega) last
      · exact set_of_tuple K (I.ok.hd hc) hl (by simpa using e1) (fun p m => ⟨(hg p m).1, (e3 p m).1, (hg p m).2⟩) few (by omega) last
    rcases k3 with ⟨h1, h2⟩ | ⟨h1, h2, h3⟩
    · refine fin kit_txt (by rw [len]; exact Nat.lt_trans h2 (by decide)) fun p m => ?_
      obtain ⟨ne, z, _, g3, g4⟩ := e3 p m
      have hs := h1 z.2 g3
      obtain ⟨v, d⟩ := z
      dsimp only at hs g4
      cases d <;> first | (cases hs; done) | skip
      obtain ⟨pv, pk⟩ := p
      dsimp only at ne g4
      subst g4
      cases (show NestedIs s.heap (.text _) pv from ne)
      exact ⟨⟨_, _, rfl⟩, Nat.zero_le _⟩
    · refine fin kit_tup (by rw [len]; omega) fun p m => ?_
      have dp := dep p m (by omega)
      obtain ⟨ne, z, _, g3, g4⟩ := e3 p m
      have hs := h1 z.2 g3
      obtain ⟨v, d⟩ := z
      dsimp only at hs g4
      cases d <;> first | (cases hs; done) | skip
      obtain ⟨pv, pk⟩ := p
      dsimp only at ne g4
      subst g4
      cases (show NestedIs s.heap (.tup _) pv from ne)
      exact ⟨⟨⟨_, rfl⟩, dp⟩, dp⟩
  rcases hx with hx | hx
  · obtain ⟨a, vs, rfl, ha, rl⟩ := hx
    obtain ⟨its, rv, hl, _⟩ := I.list (SqL.of ha)
    cases r
    exact by_kind rl rv (.inl hl.isList)
  · obtain ⟨a, vs, rfl, ha, rl⟩ := RepT.tup hx
    obtain ⟨its, rv, hl, _⟩ := I.tuple (hW ▸ ha)
    cases r
    exact by_kind rl rv (.inr hl)
open Classical in
theorem sortD_iff {ds fs : List D} (e : sortD ds = some fs) : okD (.lst ds) = true ∧ PySem.W.AllAlike (ds.map D.pd) ∧ PySem.W.Sortable (ds.map D.pd) ∧ ds.length ≤ sizeLine ∧ fs = ds.mergeSort (PySem.W.dataLe false D.pd) := by
  obtain ⟨⟨k1, k2, k3, k4⟩, e⟩ := ite_some e
  exact ⟨k1, k2, k3, line_eq ▸ k4, e.symm⟩
/-- sorted of that set -/
theorem set_sorted (hc : X.calm = true) (hW : W.K = X.K) (hu : X.A.units + 70 < cLine) {Z : Addr → Prop} {H : Hp} {pins : List (Addr × Obj)} {s : Shared} {σ : L2.St} {a : Addr} {Q : VK} {ds fs : List D} (I : Inv X pins σ H s) (k : keysOk ds = true)
    (hS : SetOfD W X Z H s.heap a ds) (e : sortD (firsts [] ds) = some fs) (q : ∀ v H', Fresh W Z H H' v (tmpL fs) → Q v H') : wpAny (model X.prog X.w) X.A (call (.builtin "sorted") [.ref a]) (EP X pins σ Q) X.xe s := by
  obtain ⟨L, es, ep, t, zs, R, z1, z2⟩ := hS
  obtain ⟨g1, g2, g3, g4, g5⟩ := sortD_iff e
  subst g5
  obtain ⟨o, ho, hex, hd⟩ := R.ob
  have hsz : es.size < scanBound := by rw [R.size]; exact R.less
  have kf : ∀ x ∈ firsts [] ds, x.key = true := fun x m => keysOk_mem k x (((firsts_nil k).2 x).mp m)
  refine Calls.call_function_entry kind_sorted plain_sorted entry_sorted (args_sorted1 _) ?_
  unfold Builtin.«sorted»
  refine wpAny_bind (m := checkCount "sorted" 1 1 _) (wpAny_pure ?_)
  refine wpAny_bind (collect_set (A := X.A.in1) (I.ok.hd hc) ⟨o, ho, hex.1, hd⟩ R.fit hsz R.ris R.led fun s1 out k1 hz eg eo pm => ?_)
  have pm2 : out.Perm (L.map (·.1)) := by
    refine pm.trans (List.Perm.of_eq ?_)
    rw [R.rows, entsOf, List.map_map]
    rfl
  obtain ⟨ys, y1, y2⟩ := each_perm pm2 z1
  have p3 : (ys.map (·.2)).Perm (firsts [] ds) := (y1.map (·.2)).trans z2
  have outl : out.length = (firsts [] ds).length := by rw [← p3.length_eq, List.length_map, y2.length]
  have small : out.length ≤ sizeLine := by rw [outl]; exact g4
  have emap : ys.map (fun z => z.2.pd) = (ys.map (·.2)).map D.pd := by rw [List.map_map]; rfl
  have al : PySem.W.AllAlike (ys.map fun z => z.2.pd) := by
    rw [emap]
    intro x hx y hy
    obtain ⟨x', mx, rfl⟩ := List.mem_map.mp hx
    obtain ⟨y', my, rfl⟩ := List.mem_map.mp hy
    exact g2 _ (List.mem_map.mpr ⟨x', p3.mem_iff.mp mx, rfl⟩) _ (List.mem_map.mpr ⟨y', p3.mem_iff.mp my, rfl⟩)
  have so : PySem.W.Sortable (ys.map fun z => z.2.pd) := by
    rw [emap]
    refine g3.imp (fun h d hd => ?_) fun h d hd => ?_
    · obtain ⟨x', mx, rfl⟩ := List.mem_map.mp hd
      exact h _ (List.mem_map.mpr ⟨x', p3.mem_iff.mp mx, rfl⟩)
    · obtain ⟨x', mx, rfl⟩ := List.mem_map.mp hd
      exact h _ (List.mem_map.mpr ⟨x', p3.mem_iff.mp mx, rfl⟩)
  have flat : ∀ z ∈ ys, z.2.flat = true ∧ z.2.pd.depth ≤ 64 := fun z m => by
    have mz : z.2 ∈ firsts [] ds := p3.mem_iff.mp (List.mem_map.mpr ⟨z, m, rfl⟩)
    refine ⟨?_, depth_mem (ok_lst g1).2 mz⟩
    have key : ∀ {l : List D}, flats l = true → ∀ x ∈ l, x.flat = true := by
      intro l
      induction l with
      | nil => exact fun _ x m => (by cases m)
      | cons y r ih =>
        intro h x m
        have h' := Bool.and_eq_true_iff.mp h
        rcases List.mem_cons.mp m with rfl | m
        · exact h'.1
        · exact ih h'.2 x m
    exact key (ok_lst g1).1 z.2 mz
  have J : Inv X pins σ H s1 := I.call' (ch := []) eo (Un.kept k1) (I.hok.kept k1) (by rw [eg]; exact I.bare) (fun _ z => nomatch z)
  have each_reads : ∀ {us : List Value} {zs : List (V × D)}, PySem.W.EachIs (ItemOf W Z H) us zs → (∀ z ∈ zs, z.2.flat = true) → PySem.W.EachIs (fun u z => ∃ as, Reads s1.heap u z.2.pd as) us zs := by
    intro us zs ei
    induction ei with
    | nil => exact fun _ => .nil
    | cons h _ ih => exact fun f => .cons (Dp.reads J _ _ _ (hW ▸ RepD.dp (f _ List.mem_cons_self) h.2) h.1) (ih fun z m => f z (List.mem_cons_of_mem _ m))
  have rd := each_reads y2 fun z m => (flat z m).1
  refine wpAny_bind (wpAny_newList ?_ small)
  have hoL : (s1.heap.push (seqObj "list" out.toArray 0)).get? s1.heap.objs.size = some (seqObj "list" out.toArray 0) := Heap.get?_push_size _ rfl
  have up : ∀ b u, s1.heap.get? b = some u → (PySem.W.sortingHeap (s1.heap.push (seqObj "list" out.toArray 0)) s1.heap.objs.size out).get? b = some u := fun b u eb => by
    have lt := Heap.lt_size eb
    exact PySem.W.sortingHeap_old (Nat.ne_of_lt lt) (Heap.get?_push_of_some _ eb)
  have rd2 : PySem.W.EachIs (fun u z => ∃ as, Reads (PySem.W.sortingHeap (s1.heap.push (seqObj "list" out.toArray 0)) s1.heap.objs.size out) u z.2.pd as) out ys := rd.mono fun _ _ ⟨as, r⟩ => ⟨as, Reads.keeps up r⟩
  have sat : PySem.W.SortsAt X.prog X.w X.A.in1.in1 { s1 with heap := PySem.W.sortingHeap (s1.heap.push (seqObj "list" out.toArray 0)) s1.heap.objs.size out } (PySem.W.dataKind (PySem.W.sortingHeap (s1.heap.push (seqObj "list" out.toArray 0)) s1.heap.objs.size out) (ys.map fun z => z.2.pd)) out :=
    PySem.W.SortsAt.data (s := { s1 with heap := PySem.W.sortingHeap (s1.heap.push (seqObj "list" out.toArray 0)) s1.heap.objs.size out }) (PySem.W.each_map (R := fun v d => ∃ as, Reads (PySem.W.sortingHeap (s1.heap.push (seqObj "list" out.toArray 0)) s1.heap.objs.size out) v d as) (fun z : V × D => z.2.pd) rd2) al so fun d hd => by
      obtain ⟨z, m, rfl⟩ := List.mem_map.mp hd
      have := (flat z m).2
      show X.A.units + 1 + 1 + z.2.pd.depth < cLine
      omega
  have done := PySem.W.sortVals_data (R := ItemOf W Z H) (enc := fun z : V × D => z.2.pd) false y2 rd2 al
  refine wpAny_bind (wpAny_holding (wpAny_call_entry slot_list_sort ⟨_, hoL, rfl⟩ entry_list_sort (PySem.W.list_sort_vals (s := { s1 with heap := s1.heap.push (seqObj "list" out.toArray 0) }) hoL sat small ⟨_, rfl, ?_⟩) (args_list_sort _)))
  obtain ⟨c, hat⟩ := sortedHeap_at (vs := out) (out := (PySem.W.sortVals (PySem.W.dataKind (PySem.W.sortingHeap (s1.heap.push (seqObj "list" out.toArray 0)) s1.heap.objs.size out) (ys.map fun z => z.2.pd)) false out out).toArray) hoL
  obtain ⟨u1, u2⟩ := each_unzip (Keeps.less (Z' := Z) (H := H) fun _ z => z) done
  have efs : (ys.mergeSort (PySem.W.dataLe false fun z => z.2.pd)).map (·.2) = (firsts [] ds).mergeSort (PySem.W.dataLe false D.pd) := by
    rw [show (ys.mergeSort (PySem.W.dataLe false fun z => z.2.pd)).map (·.2) = (ys.map (·.2)).mergeSort (PySem.W.dataLe false D.pd) from List.map_mergeSort fun _ _ _ _ => rfl]
    exact sort_perm p3 kf g2
  rw [efs] at u2
  have hn : H s1.heap.objs.size = none := I.hok.fresh hz
  have len2 : ((ys.mergeSort (PySem.W.dataLe false fun z => z.2.pd)).map (·.1)).length ≤ sizeLine := by
    rw [List.length_map, List.length_mergeSort, ← y2.length]
    exact small
  refine wpAny_pure ⟨_, rfl, .ref s1.heap.objs.size, L2.upd H s1.heap.objs.size (.lst _), J.laid (t' := s1.toks) (fun b u eb => ?_) (Nat.le_refl _) ⟨len2, _, c, u1, hat⟩, rfl, q _ _ (Fresh.lst hn u2)⟩
  have lt := Heap.lt_size eb
  show (sortedHeap (s1.heap.push (seqObj "list" out.toArray 0)) s1.heap.objs.size out _).get? b = some u
  rw [sortedHeap_old (Nat.ne_of_lt lt) (by rw [size_push']; exact Nat.lt_succ_of_lt lt)]
  exact Heap.get?_push_of_some _ eb
end
end Pk
end
section
set_option Elab.async false
set_option linter.all false
set_option maxRecDepth 100000
set_option maxHeartbeats 2000000
/-! Sets, dicts' views. -/
namespace Pk
open PySem L2 PyProof.Rows

section
variable {X : Cx} {W : Wd} {a : Expr} {p p2 q pos ap : Pos} {tx : Tx} {ma : ME}
theorem look_one (x : RV) : lookAll [x] = bnd (look1 x) fun d => ret [d] := by
  funext S
  cases c : x.look S with
  | none => simp [lookAll, look1, looks, bnd, lift, fail, c]
  | some d => simp [lookAll, look1, looks, bnd, lift, ret, c]
theorem ev_bf1 {f : Bf} : evE tx (.bf f [ma]) = fun ρ => bnd (evE tx ma ρ) fun x => bnd (look1 x) fun d => lift (bfD f [d]) := by
  rw [ev_bf]
  funext ρ
  rw [evL, bnd_assoc]
  congr 1
  funext x
  rw [bnd_assoc, evL_nil, bnd_ret, bnd_ret, look_one, bnd_assoc]
  rfl
theorem of_bf1 {f : Bf} {σ : L2.St} {H : Hp} {Q : VK} (h : RdE W WF (evE tx (.bf f [ma])) σ H Q) : tUn (rD1 W fun d => bfD f [d]) (RdE W WF (evE tx ma)) σ H Q := RdE.one (fun _ => rfl) (ev_bf1 ▸ h)
theorem ite_opt {α : Type} {c : Prop} [Decidable c] {x : Option α} {y : α} (h : (if c then x else none) = some y) : c ∧ x = some y := by
  by_cases k : c
  · rw [if_pos k] at h
    exact ⟨k, h⟩
  · rw [if_neg k] at h
    cases h
theorem sset_of {d : D} {rv : RV} (e : bfD .sortedSet [d] = some rv) : ∃ ds fs, (d = .lst ds ∨ d = .tup ds) ∧ setOk ds = true ∧ sortD (firsts [] ds) = some fs ∧ rv = tmpL fs := by
  cases d with
  | lst ds =>
    obtain ⟨k, e⟩ := ite_opt (show (if setOk ds = true then (sortD (firsts [] ds)).map tmpL else none) = some rv from e)
    obtain ⟨fs, e1, e2⟩ := Option.map_eq_some_iff.mp e
    exact ⟨ds, fs, .inl rfl, k, e1, e2.symm⟩
  | tup ds =>
    obtain ⟨k, e⟩ := ite_opt (show (if setOk ds = true then (sortD (firsts [] ds)).map tmpL else none) = some rv from e)
    obtain ⟨fs, e1, e2⟩ := Option.map_eq_some_iff.mp e
    exact ⟨ds, fs, .inr rfl, k, e1, e2.symm⟩
  | _ => cases e
theorem lset_of {d : D} {rv : RV} (e : bfD .lenSet [d] = some rv) : ∃ ds, (d = .lst ds ∨ d = .tup ds) ∧ setOk ds = true ∧ rv = iv (firsts [] ds).length := by
  cases d with
  | lst ds =>
    obtain ⟨k, e⟩ := ite_opt (show (if setOk ds = true then some (iv (firsts [] ds).length) else none) = some rv from e)
    exact ⟨ds, .inl rfl, k, (Option.some.inj e).symm⟩
  | tup ds =>
    obtain ⟨k, e⟩ := ite_opt (show (if setOk ds = true then some (iv (firsts [] ds).length) else none) = some rv from e)
    exact ⟨ds, .inr rfl, k, (Option.some.inj e).symm⟩
  | _ => cases e
/-! ### own __len__, __repr__ -/
theorem ev_ob {f : Bf} {m : Str} : evE tx (.ob f m ma) = fun ρ => bnd (evE tx ma ρ) fun x => fun S => match clsOf S x with
    | some c => if tx.has (.me c m) = true then bnd (tx.call (.me c m) [x]) (fun v => bnd (look1 v) fun d => lift (backD f d)) S else .err
    | none => bnd (look1 x) (fun d => lift (bfD f [d])) S := by
  funext ρ
  rw [evE] <;> rfl
theorem run_in1 {k : Nat} {f : Addr} {fd : FuncData} {ps : List Str} {sp : Sp} {E : XK} {pins : List (Addr × Obj)} {σ : L2.St} {H : Hp} {s : Shared} {Q : VK} {us : List Value} {vs : List V} (F : FnP X.prog X.w X.K X.mg X.base k f fd ps sp) (hr : Room (k + 1) X.A) (hg : X.A.guards = some []) (hb : Binds X.K fd ps [])
    (I : Inv X pins σ H s) (r : Vals vs us) (h : sp vs H Q E) : wpAny (model X.prog X.w) X.A.in1 (call (.ref f) us) (EP X pins σ Q) X.xe s := by
  have e0 : Env0 X.prog X.w X.K X.mg X.base X.A.in1 X.stack s H := ⟨I.env0.frames, I.env0.mod, I.env0.bs, I.env0.bsz, I.env0.funs, I.env0.frf, I.env0.hok, I.env0.bare⟩
  have rm : Room k X.A.in1 := ⟨hr.hd, by have := hr.dp; show X.A.depth + 3 * k + 5 < _; omega, by have := hr.un; show X.A.units + 1 + 16 * k + 200 < _; omega⟩
  refine wpAny_call (codeAny_mono (F.run X.A.in1 X.stack s H ⟨us, []⟩ us vs Q E rm hg e0 (by
    have := hb s us I.kIn (r.length.symm.trans (F.len _ _ _ _ h) ▸ by simp)
    rwa [List.append_nil] at this) r h) ?_)
  intro r s' hq
  cases r with
  | error e => exact hq.elim
  | ok fl => cases fl <;> first | exact I.after hq | exact hq.elim
theorem run_in2 {k : Nat} {f : Addr} {fd : FuncData} {ps : List Str} {sp : Sp} {E : XK} {pins : List (Addr × Obj)} {σ : L2.St} {H : Hp} {s : Shared} {Q : VK} {us : List Value} {vs : List V} (F : FnP X.prog X.w X.K X.mg X.base k f fd ps sp) (hr : Room (k + 1) X.A) (hg : X.A.guards = some []) (hb : Binds X.K fd ps [])
    (I : Inv X pins σ H s) (r : Vals vs us) (h : sp vs H Q E) : wpAny (model X.prog X.w) X.A.in1.in1 (call (.ref f) us) (EP X pins σ Q) X.xe s := by
  have e0 : Env0 X.prog X.w X.K X.mg X.base X.A.in1.in1 X.stack s H := ⟨I.env0.frames, I.env0.mod, I.env0.bs, I.env0.bsz, I.env0.funs, I.env0.frf, I.env0.hok, I.env0.bare⟩
  have rm : Room k X.A.in1.in1 := ⟨hr.hd, by have := hr.dp; show X.A.depth + 3 * k + 5 < _; omega, by have := hr.un; show X.A.units + 1 + 1 + 16 * k + 200 < _; omega⟩
  refine wpAny_call (codeAny_mono (F.run X.A.in1.in1 X.stack s H ⟨us, []⟩ us vs Q E rm hg e0 (by
    have := hb s us I.kIn (r.length.symm.trans (F.len _ _ _ _ h) ▸ by simp)
    rwa [List.append_nil] at this) r h) ?_)
  intro r s' hq
  cases r with
  | error e => exact hq.elim
  | ok fl => cases fl <;> first | exact I.after hq | exact hq.elim
/-- what the call must give -/
def BackQ (f : Bf) (Q : VK) : VK := fun v H => match f with
  | .len => ∃ n : Int, v = .int n ∧ 0 ≤ n ∧ n < 2 ^ 63 ∧ Q (.int n) H
  | .repr => ∃ z : Str, v = .str z ∧ Q (.str z) H
  | .str => ∃ z : Str, v = .str z ∧ Q (.str z) H
  | _ => False
def OwnP (X : Cx) (W : Wd) (k : Nat) (tx : Tx) (m : Str) : Prop := (∀ i, W.att i ≠ some m) ∧ ∀ c C, W.cls c = some C → tx.has (.me c m) = true → Cls X.K C ∧ ∃ f fd qs, Meth X.K C m f ∧ FnP X.prog X.w X.K X.mg X.base k f fd qs (SpOf W (tx.call (.me c m))) ∧ Binds X.K fd qs []
def OwnQ (X : Cx) (W : Wd) (k : Nat) (f : Bf) (m : Str) (Q : VK) : VK := fun v H =>
  (∃ Z d rv, RepT W Z H v d ∧ bfD f [d] = some rv ∧ ∀ v' H', Fresh W Z H H' v' rv → Q v' H') ∨
  ∃ p C dx gs g fd qs sp, v = .ref p ∧ H p = some (.ins C dx gs) ∧ Cls X.K C ∧ Meth X.K C m g ∧ FnP X.prog X.w X.K X.mg X.base k g fd qs sp ∧ Binds X.K fd qs [] ∧ sp [v] H (BackQ f Q) (fun _ _ _ => False)
theorem of_ob {k : Nat} {f : Bf} {m : Str} (hO : OwnP X W k tx m) {σ : L2.St} {H : Hp} {Q : VK} (h : RdE W WF (evE tx (.ob f m ma)) σ H Q) : RdE W WF (evE tx ma) σ H (OwnQ X W k f m Q) := by
  obtain ⟨L, ρ, S, rfl, hL, hE, h⟩ := h
  rw [ev_ob] at h
  refine ⟨L, ρ, S, rfl, hL, hE, h.bnd0.imp fun x S1 L1 s1 o1 q1 h1 v r1 => ?_⟩
  cases ec : clsOf S1 x with
  | none =>
    rw [ec] at h1
    obtain ⟨d, e, h3⟩ := out_look1 o1 (Out.later s1 q1 (show Out W EF L S (bnd (look1 x) (fun d => lift (bfD f [d])) S1) _ from h1))
    obtain ⟨rv, e3, q⟩ := h3.lifts
    refine .inl ⟨L1.Z, d, rv, r1.look o1 e, e3, fun v' H' fr => ?_⟩
    obtain ⟨L3, eH, s3, o3, r3, q3⟩ := Fresh.done o1 fr q
    subst eH
    exact q3 v' (r3.from s1)
  | some c =>
    rw [ec] at h1
    obtain ⟨p, C, dx, gs, ev, hc, hp, hl⟩ := r1.cls o1 ec
    have h1 : Out W EF L S (if tx.has (.me c m) = true then bnd (tx.call (.me c m) [x]) (fun v => bnd (look1 v) fun d => lift (backD f d)) S1 else .err) fun rv S' L' => ∀ v, RepR W L L' v rv → Q v L'.H := h1
    split at h1
    · rename_i hh
      obtain ⟨hC, g, fd, qs, hM, F, hb⟩ := hO.2 c C hc hh
      refine .inr ⟨p, C, dx, gs, g, fd, qs, _, ev, hp, hC, hM, F, hb, L, S, L1, S1, [x], rfl, s1, o1, q1, RepRs.cons s1 (Stp.refl o1.mz) r1 RepRs.nil, ?_⟩
      refine h1.bnd1.imp fun rv S2 L2 s2 o2 q2 h3 v' r' => ?_
      obtain ⟨d, e, h4⟩ := out_look1 o2 (Out.later s2 q2 h3)
      obtain ⟨rv2, e3, q⟩ := h4.lifts
      have rt := r'.look o2 e
      cases f <;> first | (cases d <;> cases e3; done) | skip
      · cases d <;> first | (cases e3; done) | skip
        rename_i n
        obtain ⟨⟨g1, g2⟩, e4⟩ := ite_some e3
        subst e4
        obtain ⟨L3, eH, s3, o3, r3, q3⟩ := Fresh.done o2 (Fresh.int (W := W) n) q
        have q4 := q3 _ (r3.from s2)
        rw [eH] at q4
        exact ⟨n, RepT.int rt, g1, g2, q4⟩
      · cases d <;> first | (cases e3; done) | skip
        rename_i z
        cases e3
        obtain ⟨L3, eH, s3, o3, r3, q3⟩ := Fresh.done o2 (Fresh.old (W := W) (RepD.str z)) q
        have q4 := q3 _ (r3.from s2)
        rw [eH] at q4
        exact ⟨z, RepT.str rt, q4⟩
      · cases d <;> first | (cases e3; done) | skip
        rename_i z
        cases e3
        obtain ⟨L3, eH, s3, o3, r3, q3⟩ := Fresh.done o2 (Fresh.old (W := W) (RepD.str z)) q
        have q4 := q3 _ (r3.from s2)
        rw [eH] at q4
        exact ⟨z, RepT.str rt, q4⟩
    · exact h1.elim
theorem n_ob {k : Nat} {f : Bf} {m x : Str} (hx : (x = "len" ∧ f = .len ∧ m = "__len__") ∨ (x = "repr" ∧ f = .repr ∧ m = "__repr__")) (hW : W.K = X.K) (hc : X.calm = true) (hgu : X.A.guards = some []) (hu : X.A.units + 70 < cLine) (hr : Room (k + 1) X.A) (hO : OwnP X W k tx m)
    (hg : Gl X x) (hm : X.mg x = none) (hn : nice a = true) (ha : PE X a (RdE W WF (evE tx ma))) : PE X (.Call (.Name x p) [a] [] pos) (RdE W WF (evE tx (.ob f m ma))) := by
  refine ⟨fun pins s σ H Q I h => ?_⟩
  have h := of_ob hO h
  have bt : bootBuiltins x = some (.builtin (if f = .len then "len" else "repr")) ∧ x ≠ "__name__" ∧ (x == ("__debug__" : Str)) = false := by
    rcases hx with ⟨rfl, rfl, rfl⟩ | ⟨rfl, rfl, rfl⟩ <;> exact ⟨rfl, by decide, by decide⟩
  refine Call_ (ld_blt (hn := bt.2.1) (hd := bt.2.2) I hg hm bt.1 ?_)
  refine PyProof.Rows.callWith_builtin1 (PyProof.Rows.args_cons (thn (ha.run pins s σ H _ I h) fun v s1 ⟨y, H1, I1, r1, q1⟩ => PyProof.Rows.args_nil ?_) (nice_star hn [] X.env)) (nice_star hn [] X.env) rfl
  have bd : bfVal f = .builtin (if f = .len then "len" else "repr") := by
    rcases hx with ⟨rfl, rfl, rfl⟩ | ⟨rfl, rfl, rfl⟩ <;> rfl
  rcases q1 with ⟨Z, d, rv, rt, e, q⟩ | ⟨p, C, dx, gs, g, fd, qs, sp, rfl, hp, hC, hM, F, hb, hs⟩
  · have := call_bf hW hc hgu hu f (by rcases hx with ⟨rfl, rfl, rfl⟩ | ⟨rfl, rfl, rfl⟩ <;> exact ⟨by decide, by decide, by decide, by decide⟩) pins s1 σ H1 [y] [v] Q I1 (.cons r1 .nil) ⟨Z, [d], rv, .cons rt .nil, e, q⟩
    rwa [bd] at this
  · obtain ⟨mm, hF⟩ := I1.fr
    obtain ⟨mA, O, r, _, _, _⟩ := ins_get I1.hok hp
    cases r1
    have run := run_in1 F hr hgu hb I1 (.cons (show RelV (.ref p) (.ref p) from rfl) .nil) hs
    obtain ⟨od, _, _, hod, _⟩ := id O.ns
    have ia : PySem.W.InstAt s1.heap p (PySem.W.instObj C dx) C (some od) := ⟨O.obj, rfl, rfl, hod⟩
    rcases hx with ⟨rfl, rfl, rfl⟩ | ⟨rfl, rfl, rfl⟩
    · refine PySem.W.len_K hF I1.ok.mod.kin ia hM.at_ hM.fn (wpAny_mono run (fun r s' hq => ?_) fun _ _ z => z)
      obtain ⟨v, H', J, rv, n, rfl, g1, g2, q⟩ := hq
      obtain ⟨t, rfl⟩ := rv
      exact ⟨⟨g1, g2⟩, .int n, H', J.tok _, ⟨_, rfl⟩, q⟩
    · refine PySem.W.repr_K (by show X.A.units + 1 < cLine; omega) hF I1.ok.mod.kin ia hM.at_ hM.fn (wpAny_mono run (fun r s' hq => ?_) fun _ _ z => z)
      obtain ⟨v, H', J, rv, z, rfl, q⟩ := hq
      obtain ⟨t, rfl⟩ := rv
      exact ⟨.str z, H', J, ⟨t, rfl⟩, q⟩
/-- str(x), by an own __str__ -/
theorem n_obS {k : Nat} (hW : W.K = X.K) (hc : X.calm = true) (hgu : X.A.guards = some []) (hu : X.A.units + 70 < cLine) (hr : Room (k + 1) X.A) (hO : OwnP X W k tx "__str__")
    (hg : Gl X "str") (hm : X.mg "str" = none) (hn : nice a = true) (ha : PE X a (RdE W WF (evE tx ma))) : PE X (.Call (.Name "str" p) [a] [] pos) (RdE W WF (evE tx (.ob .str "__str__" ma))) := by
  refine ⟨fun pins s σ H Q I h => ?_⟩
  have h := of_ob hO h
  refine Call_ (ld_blt (hn := by decide) (hd := by decide) I hg hm (show bootBuiltins "str" = some (.type "str") by rfl) ?_)
  refine PyProof.Rows.callWith_type1 (PyProof.Rows.args_cons (thn (ha.run pins s σ H _ I h) fun v s1 ⟨y, H1, I1, r1, q1⟩ => PyProof.Rows.args_nil ?_) (nice_star hn [] X.env)) (nice_star hn [] X.env) rfl
  rcases q1 with ⟨Z, d, rv, rt, e, q⟩ | ⟨p, C, dx, gs, g, fd, qs, sp, rfl, hp, hC, hM, F, hb, hs⟩
  · exact call_bf hW hc hgu hu .str ⟨by decide, by decide, by decide, by decide⟩ pins s1 σ H1 [y] [v] Q I1 (.cons r1 .nil) ⟨Z, [d], rv, .cons rt .nil, e, q⟩
  · obtain ⟨mA, O, r, _, _, _⟩ := ins_get I1.hok hp
    cases r1
    have run := run_in2 F hr hgu hb I1 (.cons (show RelV (.ref p) (.ref p) from rfl) .nil) hs
    obtain ⟨od, _, _, hod, _⟩ := id O.ns
    have ia : PySem.W.InstAt s1.heap p (PySem.W.instObj C dx) C (some od) := ⟨O.obj, rfl, rfl, hod⟩
    refine PySem.W.kso_call (by show X.A.units + 1 + 1 < cLine; omega) I1.kIn ia hM.at_ hM.fn (wpAny_mono run (fun r s' hq => ?_) fun _ _ z => z)
    obtain ⟨v, H', J, rv, z, rfl, q⟩ := hq
    obtain ⟨t, rfl⟩ := rv
    exact ⟨.str z, H', J, ⟨t, rfl⟩, q⟩
theorem n_sset (hW : W.K = X.K) (hc : X.calm = true) (hgu : X.A.guards = some []) (hu : X.A.units + 70 < cLine) (hg : Gl X "sorted") (hm : X.mg "sorted" = none) (hg2 : Gl X "set") (hm2 : X.mg "set" = none) (hn : nice a = true) (ha : PE X a (RdE W WF (evE tx ma))) :
    PE X (.Call (.Name "sorted" p) [.Call (.Name "set" p2) [a] [] q] [] pos) (RdE W WF (evE tx (.bf .sortedSet [ma]))) := by
  refine ⟨fun pins s σ H Q I h => ?_⟩
  have h := of_bf1 h
  refine Call_ (ld_blt I hg hm boot_sorted ?_)
  refine PyProof.Rows.callWith_builtin1 (PyProof.Rows.args_cons ?_ rfl) rfl rfl
  refine Call_ (ld_blt I hg2 hm2 boot_set ?_)
  refine PyProof.Rows.callWith_type1 (PyProof.Rows.args_cons (thn (ha.run pins s σ H _ I h) fun v s1 ⟨x, H1, I1, r1, q1⟩ => PyProof.Rows.args_nil ?_) (nice_star hn [] X.env)) (nice_star hn [] X.env) rfl
  obtain ⟨Z, dx, rv, hx, e, q1⟩ := q1
  obtain ⟨ds, fs, hd, k, e1, rfl⟩ := sset_of e
  refine set_made hW hc hu I1 r1 (hd.imp (fun z => z ▸ hx) fun z => z ▸ hx) k fun h' tk a kp hS => PyProof.Rows.args_nil ?_
  exact set_sorted (s := { s1 with heap := h', toks := tk }) hc hW hu (I1.kept kp) (setOk_iff k).1 hS e1 q1
theorem n_lset (hW : W.K = X.K) (hc : X.calm = true) (hgu : X.A.guards = some []) (hu : X.A.units + 70 < cLine) (hg : Gl X "len") (hm : X.mg "len" = none) (hg2 : Gl X "set") (hm2 : X.mg "set" = none) (hn : nice a = true) (ha : PE X a (RdE W WF (evE tx ma))) :
    PE X (.Call (.Name "len" p) [.Call (.Name "set" p2) [a] [] q] [] pos) (RdE W WF (evE tx (.bf .lenSet [ma]))) := by
  refine ⟨fun pins s σ H Q I h => ?_⟩
  have h := of_bf1 h
  refine Call_ (ld_blt I hg hm boot_len ?_)
  refine PyProof.Rows.callWith_builtin1 (PyProof.Rows.args_cons ?_ rfl) rfl rfl
  refine Call_ (ld_blt I hg2 hm2 boot_set ?_)
  refine PyProof.Rows.callWith_type1 (PyProof.Rows.args_cons (thn (ha.run pins s σ H _ I h) fun v s1 ⟨x, H1, I1, r1, q1⟩ => PyProof.Rows.args_nil ?_) (nice_star hn [] X.env)) (nice_star hn [] X.env) rfl
  obtain ⟨Z, dx, rv, hx, e, q1⟩ := q1
  obtain ⟨ds, hd, k, rfl⟩ := lset_of e
  refine set_made hW hc hu I1 r1 (hd.imp (fun z => z ▸ hx) fun z => z ▸ hx) k fun h' tk a kp hS => PyProof.Rows.args_nil ?_
  obtain ⟨L, es, ep, t, zs, R, z1, z2⟩ := hS
  obtain ⟨o, ho, hex, hd2⟩ := R.ob
  have hl : es.size = (firsts [] ds).length := by
    have h1 := z1.length
    rw [List.length_map] at h1
    rw [R.size, h1, ← z2.length_eq, List.length_map]
  have I2 : Inv X pins σ H1 { s1 with heap := h', toks := tk } := I1.kept kp
  exact call_len_set (s := { s1 with heap := h', toks := tk }) ho hex hd2 R.fit (by have h1 := R.less; have h2 := R.size; unfold scanBound at h1; omega) ⟨.int (firsts [] ds).length, H1, I2.tok _, ⟨_, by rw [hl]⟩, q1 _ _ (Fresh.int _)⟩
end
end Pk
end
section
set_option Elab.async false
set_option linter.all false
set_option maxRecDepth 100000
set_option maxHeartbeats 2000000
/-! == and != where an own class has its own ==: over the heap. -/
namespace Pk
open PySem L2 PyProof.Rows

theorem kit_sub {K : PySem.W.Frag} {t : Value} {C : Addr} (h : PySem.W.kitOne K t (.ref C) = some false) : PySem.W.subIn K t (.ref C) = some false := by
  unfold PySem.W.kitOne at h
  split at h
  · cases h
  · unfold PySem.W.kitCls at h
    dsimp only at h
    split at h
    · exact h
    · cases h
theorem kit_subT {K : PySem.W.Frag} {n : String} {C : Addr} (h : PySem.W.kitOne K (.ref C) (.type n) = some false) : PySem.W.mroIn K C (.type n) = some false := by
  unfold PySem.W.kitOne at h
  split at h
  · cases h
  · unfold PySem.W.kitCls at h
    dsimp only at h
    split at h
    · exact h
    · cases h
/-- what a class with an own == must have besides -/
structure EqF (W : Wd) (K : PySem.W.Frag) : Prop where
  ne : ∀ c C, W.cls c = some C → PySem.W.findIn K (.ref C) "__ne__" = some (some (.builtin "object.__ne__"))
  nn : ∀ c C, W.cls c = some C → PySem.W.mroIn K C (.type "NoneType") = some false
def BoolQ (g : Bool → Bool) (Q : VK) : VK := fun v H => ∃ k, v = .bl k ∧ Q (.bl (g k)) H
/-- == and != -/
def eqOp : CmpOp → Option (Bool → Bool)
  | .Eq => some id
  | .NotEq => some (!·)
  | _ => none
section
variable {X : Cx} {W : Wd} {pins : List (Addr × Obj)} {σ : L2.St} {H : Hp} {s : Shared} {Q : VK} {k : Nat} {f C dx p : Addr} {fd : FuncData} {ps : List Str} {sp : Sp} {E : XK} {gs : List (Str × V)} {c : Nat}
/-- the own == of the instance at p, asked by == or != of it and another -/
theorem own_left {op : CmpOp} {g : Bool → Bool} (ho : eqOp op = some g) (hu : X.A.units + 70 < cLine) (hr : Room (k + 1) X.A) (hg : X.A.guards = some []) (F : FnP X.prog X.w X.K X.mg X.base k f fd ps sp) (hb : Binds X.K fd ps []) (hM : Meth X.K C "__eq__" f) (hi : IsF W X.K) (he : EqF W X.K) (hc : W.cls c = some C)
    (I : Inv X pins σ H s) (hp : H p = some (.ins C dx gs)) {y : V} {u tb : Value} (ry : RelV y u) (ht : PySem.W.Looks (model X.prog X.w) s.heap (typeOf u) tb) (hn : PySem.W.notFirst X.K C tb = true) (h : sp [.ref p, y] H (BoolQ g Q) E) :
    wpAny (model X.prog X.w) X.A (compareOp op (.ref p) u) (EP X pins σ Q) X.xe s := by
  obtain ⟨mm, hF⟩ := I.fr
  obtain ⟨mA, O, _⟩ := ins_get I.hok hp
  obtain ⟨od, _, _, hod, _⟩ := id O.ns
  have ia : PySem.W.InstAt s.heap p (PySem.W.instObj C dx) C (some od) := ⟨O.obj, rfl, rfl, hod⟩
  have rv : Vals [V.ref p, y] [Value.ref p, u] := .cons rfl (.cons ry .nil)
  cases op <;> first | (cases ho; done) | skip
  · cases ho
    have run := run_P (vs := [.ref p, y]) (dvs := []) F (hr.mono (Nat.le_succ k)) hg hb .nil I rv h
    refine PySem.W.cmp_K (op := .Eq) (by omega) hF I.ok.mod.kin ia ht hn hM.at_ hM.fn (wpAny_mono run (fun r s' hq => ?_) fun _ _ z => z)
    obtain ⟨v, H', J, rv, b, rfl, q⟩ := hq
    cases rv
    exact ⟨.bl b, H', J, rfl, q⟩
  · cases ho
    have run := run_in1 F hr hg hb I rv h
    refine ne_K (by omega) hF I.ok.mod.kin ia ht hn hM.at_ hM.fn (he.ne c C hc) (hi.cls c C hc).2.2 (wpAny_mono run (fun r s' hq => ?_) fun _ _ z => z)
    obtain ⟨v, H', J, rv, b, rfl, q⟩ := hq
    cases rv
    exact ⟨b, rfl, .bl (!b), H', J, rfl, q⟩
theorem own_right {op : CmpOp} {g : Bool → Bool} (ho : eqOp op = some g) (hW : W.K = X.K) (hu : X.A.units + 70 < cLine) (hr : Room (k + 1) X.A) (hg : X.A.guards = some []) (F : FnP X.prog X.w X.K X.mg X.base k f fd ps sp) (hb : Binds X.K fd ps []) (hM : Meth X.K C "__eq__" f) (hi : IsF W X.K) (he : EqF W X.K) (hc : W.cls c = some C)
    (I : Inv X pins σ H s) (hp : H p = some (.ins C dx gs)) {y : V} {u : Value} {Z : Addr → Prop} {d : D} (ry : RelV y u) (hd : RepD W Z H y d) (hk : declines d = true) (h : sp [.ref p, y] H (BoolQ g Q) E) :
    wpAny (model X.prog X.w) X.A (compareOp op u (.ref p)) (EP X pins σ Q) X.xe s := by
  obtain ⟨mA, O, _⟩ := ins_get I.hok hp
  obtain ⟨od, _, _, hod, _⟩ := id O.ns
  have ia : PySem.W.InstAt s.heap p (PySem.W.instObj C dx) C (some od) := ⟨O.obj, rfl, rfl, hod⟩
  have rv : Vals [V.ref p, y] [Value.ref p, u] := .cons rfl (.cons ry .nil)
  have two : ∃ sy, (cmpInfo op).2.2 = sy ∧ wpAny (model X.prog X.w) X.A (tryCompare (.ref p) sy u) (fun r s' => ∃ v, r = some v ∧ EP X pins σ Q v s') X.xe s := by
    cases op <;> first | (cases ho; done) | skip
    · cases ho
      have run := run_P (vs := [.ref p, y]) (dvs := []) F (hr.mono (Nat.le_succ k)) hg hb .nil I rv h
      refine ⟨_, rfl, tryEq I.kIn ia hM.at_ hM.fn (wpAny_mono run (fun r s' hq => ?_) fun _ _ z => z)⟩
      obtain ⟨v, H', J, rv, b, rfl, q⟩ := hq
      cases rv
      exact ⟨b, rfl, _, rfl, .bl b, H', J, rfl, q⟩
    · cases ho
      have run := run_in1 F hr hg hb I rv h
      refine ⟨_, rfl, tryNe (by omega) I.kIn ia hM.at_ hM.fn (he.ne c C hc) (hi.cls c C hc).2.2 (wpAny_mono run (fun r s' hq => ?_) fun _ _ z => z)⟩
      obtain ⟨v, H', J, rv, b, rfl, q⟩ := hq
      cases rv
      exact ⟨b, rfl, _, rfl, .bl (!b), H', J, rfl, q⟩
  obtain ⟨sy, es, two⟩ := two
  rw [← es] at two
  have hop : op = .Eq ∨ op = .NotEq := by cases op <;> first | (cases ho; done) | exact .inl rfl | exact .inr rfl
  have fin : ∀ {T : String}, s.TypeIs u T → PySem.W.mroIn X.K C (.type T) = some false → (∃ ida, Slot T (cmpInfo op).2.1 ida ∧ ∀ Q' : Value → Shared → Prop, Q' .notImplemented s → wpAny (model X.prog X.w) X.A (call (.builtin ida) [u, .ref p]) Q' X.xe s) → wpAny (model X.prog X.w) X.A (richCompare op u (.ref p)) (EP X pins σ Q) X.xe s := by
    rintro T hT hm ⟨ida, hs, hd⟩
    exact refl_K (by omega) I.kIn hT ia hm hs hd two
  have go : wpAny (model X.prog X.w) X.A (richCompare op u (.ref p)) (EP X pins σ Q) X.xe s := by
    cases d <;> first | (cases hk; done) | skip
    · cases hd
      cases ry
      exact fin rfl (he.nn c C hc) (none_dec op hop)
    · cases hd
      obtain ⟨t, rfl⟩ := ry
      exact fin rfl (kit_subT (hi.nt c C hc "int" (by simp))) (int_dec op hop O.obj)
    · cases hd
      obtain ⟨t, rfl⟩ := ry
      exact fin rfl (kit_subT (hi.nt c C hc "str" (by simp))) (str_dec op hop O.obj)
    · cases hd with
      | tup h1 h2 =>
        rw [hW] at h1
        cases ry
        obtain ⟨its, r, ⟨o, e1, e2, n, e3⟩, z⟩ := I.tuple h1
        obtain ⟨oc, od', dt, sl⟩ := o
        dsimp only at e2 e3
        subst e2 e3
        have hm := kit_subT (hi.nt c C hc "tuple" (by simp))
        exact fin ⟨_, e1, rfl⟩ hm (tuple_dec op hop e1 fun M => ia.type.andThen (PySem.W.looks_mroIn I.kIn hm))
    · cases hd with
      | lst h0 h1 h2 =>
        cases ry
        obtain ⟨z, its, n, r, e1⟩ := I.hok _ _ h1
        have hm := kit_subT (hi.nt c C hc "list" (by simp))
        exact fin ⟨_, e1, rfl⟩ hm (list_dec op hop e1 fun M => ia.type.andThen (PySem.W.looks_mroIn I.kIn hm))
  cases op <;> first | (cases ho; done) | exact go
end
end Pk
end
section
set_option Elab.async false
set_option linter.all false
set_option maxRecDepth 100000
set_option maxHeartbeats 2000000
/-! Comparisons, own classes' ones too: the node. -/
namespace Pk
open PySem L2 PyProof.Rows

theorem Out.nox {α : Type} {W : Wd} {E E' : XK} {L : Lo} {S : Pk.St} {m : M α} {P : α → Pk.St → Lo → Prop} (h : Out W E L S (nox m S) P) : Out W E' L S (m S) P := by
  unfold Pk.nox at h
  cases e : m S with
  | ok a S' => rw [e] at h; exact h
  | exc x S' => rw [e] at h; exact h.elim
  | err => rw [e] at h; exact h.elim
section
variable {T : Tx} {op : CmpOp} {a b rv : RV} {S S' : Pk.St}
theorem seqEq_ok (h : seqEq T op a b S = .ok rv S') : ∃ k, rv = bv k := by
  unfold seqEq at h
  split at h
  · split at h
    · cases h; exact ⟨_, rfl⟩
    · cases h
  · split at h
    · cases h; exact ⟨_, rfl⟩
    · cases h
  · cases h
theorem seqEq_exc {e : D} (h : seqEq T op a b S = .exc e S') : False := by
  unfold seqEq at h
  split at h
  · split at h <;> cases h
  · split at h <;> cases h
  · cases h
theorem boolG_ok {g : Bool → Bool} {v : RV} (h : boolG g v S = .ok rv S') : ∃ k, rv = bv k := by
  unfold boolG at h
  split at h
  · cases h; exact ⟨_, rfl⟩
  · cases h
theorem ownEq_ok {g : Bool → Bool} (h : ownEq T op g a b S = .ok rv S') : ∃ k, rv = bv k := by
  unfold ownEq at h
  split at h
  · split at h
    · split at h
      · obtain ⟨v, S1, _, h2⟩ := bnd_ok (nox_ok h)
        exact boolG_ok h2
      · cases h
    · split at h
      · split at h
        · obtain ⟨v, S1, _, h2⟩ := bnd_ok (nox_ok h)
          exact boolG_ok h2
        · cases h
      · cases h
    · exact seqEq_ok h
  · exact seqEq_ok h
theorem ownEq_exc {g : Bool → Bool} {e : D} (h : ownEq T op g a b S = .exc e S') : False := by
  unfold ownEq at h
  split at h
  · split at h
    · split at h
      · exact nox_exc h
      · cases h
    · split at h
      · split at h
        · exact nox_exc h
        · cases h
      · cases h
    · exact seqEq_exc h
  · exact seqEq_exc h
theorem ownIn_ok {k : Bool} (h : ownIn T k a b S = .ok rv S') : ∃ k, rv = bv k := by
  unfold ownIn at h
  split at h
  · split at h
    · cases h; exact ⟨_, rfl⟩
    · cases h
  · cases h
theorem ownIn_exc {k : Bool} {e : D} (h : ownIn T k a b S = .exc e S') : False := by
  unfold ownIn at h
  split at h
  · split at h <;> cases h
  · cases h
theorem isBl_ok {g : Bool → Bool} (h : isBl g a b S = .ok rv S') : ∃ k, rv = bv k := by
  unfold isBl at h
  split at h
  · cases h; exact ⟨_, rfl⟩
  · cases h
theorem isBl_exc {g : Bool → Bool} {e : D} (h : isBl g a b S = .exc e S') : False := by
  unfold isBl at h
  split at h <;> cases h
theorem ownCmp_ok (h : ownCmp T op a b S = .ok rv S') : ∃ k, rv = bv k := by
  cases op <;> first | exact ownEq_ok h | exact ownIn_ok h | exact isBl_ok h | cases h
theorem ownCmp_exc {e : D} (h : ownCmp T op a b S = .exc e S') : False := by
  cases op <;> first | exact ownEq_exc h | exact ownIn_exc h | exact isBl_exc h | cases h
theorem cmpW_ok (h : cmpW T op a b S = .ok rv S') : ∃ k, rv = bv k := by
  unfold cmpW at h
  split at h
  · rename_i e
    cases h
    exact cmpV_ok e
  · exact ownCmp_ok h
theorem cmpW_exc {e : D} (h : cmpW T op a b S = .exc e S') : False := by
  unfold cmpW at h
  split at h
  · cases h
  · exact ownCmp_exc h
end
/-- each class with an own == -/
def EqsG (P : Program) (w : World) (K : PySem.W.Frag) (mg : Str → Option Value) (base : Heap) (W : Wd) (k : Nat) (tx : Tx) : Prop := ∀ c C, W.cls c = some C → tx.has (.me c "__eq__") = true →
  ∃ f fd qs, Meth K C "__eq__" f ∧ FnP P w K mg base k f fd qs (SpOf W (tx.call (.me c "__eq__"))) ∧ Binds K fd qs []
section
variable {X : Cx} {W : Wd} {pins : List (Addr × Obj)} {σ : L2.St} {s : Shared} {Q : VK} {k : Nat} {tx : Tx} {L0 L : Lo} {S : Pk.St}
/-- the class of what stands on the right -/
theorem right_ty {C : Addr} {c : Nat} (hW : W.K = X.K) (hi : IsF W X.K) (hc : W.cls c = some C) (hL : Ok W L S) (I : Inv X pins σ L.H s) {y : V} {u : Value} {b : RV} (ry : RelV y u) (rb : RepR W L0 L y b) (hk : known S b = true) :
    ∃ tb, PySem.W.Looks (model X.prog X.w) s.heap (typeOf u) tb ∧ PySem.W.notFirst X.K C tb = true := by
  cases ec : clsOf S b with
  | some c' =>
    obtain ⟨p, C', dx, gs, ev, hc', hp, _⟩ := rb.cls hL ec
    subst ev
    obtain ⟨f1, f2, f3⟩ := hi.cls c' C' hc'
    obtain ⟨P, Z, q, _⟩ := kit_of I ry (.base (.ins hp f1 f2 hi.g1 hi.g2 f3))
    refine ⟨.ref C', Z.ty _ _ I.kIn q, ?_⟩
    have h1 := hi.cc c' C' c C hc' hc
    unfold PySem.W.notFirst
    by_cases e : c' = c
    · subst e
      rw [hc'] at hc
      cases hc
      simp
    · rw [show (c' == c) = false from by simpa using e] at h1
      rw [kit_sub h1]
      simp
  | none =>
    unfold known at hk
    rw [ec] at hk
    cases e1 : b.look S with
    | none => rw [e1] at hk; cases hk
    | some d =>
      have hd := look_ins e1 ec
      obtain ⟨h1, h2⟩ := (rb.look hL e1).tyx hW hd
      obtain ⟨P, Z, q, _⟩ := kit_of I ry h1
      refine ⟨_, Z.ty _ _ I.kIn q, ?_⟩
      unfold PySem.W.notFirst
      rw [kit_sub (hi.tn c C hc _ h2)]
      simp
/-- what the own == is asked -/
theorem own_sp {g : Bool → Bool} {c : Nat} {x y : V} {a b : Val} {E : XK} (hL : Ok W L S) (ra : RepV W L x a) (rb : RepV W L y b) (h : Out W EF L S (nox (bnd (tx.call (.me c "__eq__") [.v a, .v b]) (boolG g)) S) fun rv S' L' => ∀ v, RepR W L L' v rv → Q v L'.H) :
    SpOf W (tx.call (.me c "__eq__")) [x, y] L.H (BoolQ g Q) E := by
  have r1 : RepR W L L x (.v a) := ra
  have r2 : RepR W L L y (.v b) := rb
  have s0 := Stp.refl hL.mz
  refine ⟨L, S, L, S, [.v a, .v b], rfl, s0, hL, SS.refl S, RepRs.cons s0 s0 r1 (RepRs.cons s0 s0 r2 RepRs.nil), ?_⟩
  have h1 : Out W EF L S _ _ := Out.nox h
  refine h1.bnd0.imp fun rv S' L' s' o' q' h3 v r => ?_
  unfold boolG at h3
  split at h3
  · rename_i k
    cases (show RepD W L'.Z L'.H v (.bl k) from r)
    exact ⟨k, rfl, h3 L' s' o' q' _ (.bl _)⟩
  · exact h3.elim
end
end Pk
end
section
set_option Elab.async false
set_option linter.all false
set_option maxRecDepth 100000
set_option maxHeartbeats 2000000
/-! Rows of instances compared; comparisons together. -/
namespace Pk
open PySem L2 PyProof.Rows

section
variable {X : Cx} {W : Wd} {pins : List (Addr × Obj)} {σ : L2.St} {s : Shared} {Q : VK} {k : Nat} {tx : Tx} {L0 L L1 : Lo} {S : Pk.St}
/-- still where the comparison began, but for new objects -/
def Stay (X : Cx) (W : Wd) (pins : List (Addr × Obj)) (σ : L2.St) (L : Lo) (S : Pk.St) (s' : Shared) : Prop := ∃ L', Stp L L' ∧ Ok W L' S ∧ Inv X pins σ L'.H s'
theorem pair_eq (hgu : X.A.guards = some []) (hu : X.A.units + 70 < cLine) (hr : Room (k + 1) X.A) (hi : IsF W X.K) (hq : EqsG X.prog X.w X.K X.mg X.base W k tx) {x y : D} (hp : insPair tx S x y) (st : Stp L L1) (o1 : Ok W L1 S) (I : Inv X pins σ L1.H s) {vx vy : V} {u v : Value}
    (rx : RepD W L1.Z L1.H vx x) (ry : RepD W L1.Z L1.H vy y) (ux : RelV vx u) (uy : RelV vy v) : wpAny (model X.prog X.w) X.A.in1 (eqBool u v) (fun r s' => r = true ∧ Stay X W pins σ L S s') X.xe s := by
  obtain ⟨c, fs, gs, rfl, rfl, hh, hcall⟩ := hp
  have rx' := rx
  have ry' := ry
  cases rx with
  | @ins a C dx _ gx _ h0 hc h1 h2 =>
  cases ry with
  | @ins b C' dy _ gy _ g0 hc' g1 g2 =>
  rw [hc] at hc'
  cases hc'
  cases ux
  cases uy
  by_cases e : a = b
  · subst e
    exact SeqAt.EqAt.same (A := X.A.in1) (s := s) (.ref a) X.prog X.w X.xe _ ⟨rfl, L1, st, o1, I⟩
  · obtain ⟨f, fd, qs, hM, F, hb⟩ := hq c C hc hh
    obtain ⟨mm, hF⟩ := I.fr
    obtain ⟨mA, O, _⟩ := ins_get I.hok h1
    obtain ⟨mB, O', _⟩ := ins_get I.hok g1
    obtain ⟨od, _, _, hod, _⟩ := id O.ns
    obtain ⟨od', _, _, hod', _⟩ := id O'.ns
    have ia : PySem.W.InstAt s.heap a (PySem.W.instObj C dx) C (some od) := ⟨O.obj, rfl, rfl, hod⟩
    have ib : PySem.W.InstAt s.heap b (PySem.W.instObj C dy) C (some od') := ⟨O'.obj, rfl, rfl, hod'⟩
    have s0 := Stp.refl o1.mz
    have hs : SpOf W (tx.call (.me c "__eq__")) [.ref a, .ref b] L1.H (fun v H' => v = .bl true ∧ ∃ L', L'.H = H' ∧ Stp L L' ∧ Ok W L' S) (fun _ _ _ => False) := by
      refine ⟨L1, S, L1, S, _, rfl, s0, o1, SS.refl S, RepRs.cons s0 s0 (show RepR W L1 L1 (.ref a) (dv (.ins c fs)) from rx') (RepRs.cons s0 s0 (show RepR W L1 L1 (.ref b) (dv (.ins c gs)) from ry') RepRs.nil), ?_⟩
      rw [hcall]
      intro L' s' o' q' v r
      cases (show RepD W L'.Z L'.H v (.bl true) from r)
      exact ⟨rfl, L', rfl, st.trans s', o'⟩
    have run := run_in1 F hr hgu hb I (.cons (show RelV (.ref a) (.ref a) from rfl) (.cons (show RelV (.ref b) (.ref b) from rfl) .nil)) hs
    refine GQ.eqBool_refG e (PySem.W.cmp_K (op := .Eq) (tb := .ref C) (by show X.A.units + 1 < cLine; omega) hF I.ok.mod.kin ia ib.type (by simp [PySem.W.notFirst]) hM.at_ hM.fn (wpAny_mono run (fun r s' hq => ?_) fun _ _ z => z))
    obtain ⟨v, H', J, rv, rfl, L', rfl, st', o'⟩ := hq
    cases rv
    exact ⟨true, rfl, rfl, L', st', o', J⟩
theorem pairs_len : ∀ {xs ys : List D}, insPairs tx S xs ys → xs.length = ys.length
  | [], [], _ => rfl
  | _ :: _, _ :: _, h => by rw [List.length_cons, List.length_cons, pairs_len h.2]
  | [], _ :: _, h => h.elim
  | _ :: _, [], h => h.elim
theorem pairs_get : ∀ {xs ys : List D} {i : Nat} {x y : D}, insPairs tx S xs ys → xs[i]? = some x → ys[i]? = some y → insPair tx S x y
  | [], [], _, _, _, _, e, _ => by simp at e
  | _ :: _, _ :: _, 0, _, _, h, e, e' => by
    simp at e e'
    subst e e'
    exact h.1
  | _ :: _, _ :: _, i + 1, _, _, h, e, e' => pairs_get (i := i) h.2 (by simpa using e) (by simpa using e')
  | [], _ :: _, _, _, _, h, _, _ => h.elim
  | _ :: _, [], _, _, _, h, _, _ => h.elim
/-- an item of a row, its data, its value -/
theorem item_of {vs : List V} {ds : List D} {its : List Value} {i : Nat} (r : RepL W L1.Z L1.H vs ds) (rv : Vals vs its) (h : i < its.toArray.size) : ∃ (d : D) (v : V), ds[i]? = some d ∧ RepD W L1.Z L1.H v d ∧ RelV v its.toArray[i] := by
  have h' : i < its.length := by simpa using h
  have hl : i < vs.length := by rw [rv.length]; exact h'
  obtain ⟨d, e1, e2⟩ := r.getV (List.getElem?_eq_getElem hl)
  obtain ⟨u, e3, e4⟩ := rv.get (List.getElem?_eq_getElem hl)
  rw [List.getElem?_eq_getElem h'] at e3
  cases e3
  exact ⟨d, _, e1, e2, by simpa using e4⟩
theorem lists_eq (hgu : X.A.guards = some []) (hu : X.A.units + 70 < cLine) (hr : Room (k + 1) X.A) (hi : IsF W X.K) (hq : EqsG X.prog X.w X.K X.mg X.base W k tx) {xs ys : List D} (hp : insPairs tx S xs ys) (hL : Ok W L S) (I : Inv X pins σ L.H s) {x y : V} {u v : Value} {a b : RV}
    (ra : RepR W L0 L x a) (rb : RepR W L0 L y b) (ea : a.look S = some (.lst xs)) (eb : b.look S = some (.lst ys)) (rx : RelV x u) (ry : RelV y v) : wpAny (model X.prog X.w) X.A (compareOp .Eq u v) (fun r s' => r = .bool true ∧ Stay X W pins σ L S s') X.xe s := by
  obtain ⟨p, vs, rfl, hp1, hp2⟩ := (show ∃ a vs, x = .ref a ∧ L.H a = some (.lst vs) ∧ RepL W L.Z L.H vs xs from ra.look hL ea)
  obtain ⟨q, us, rfl, hq1, hq2⟩ := (show ∃ a vs, y = .ref a ∧ L.H a = some (.lst vs) ∧ RepL W L.Z L.H vs ys from rb.look hL eb)
  cases rx
  cases ry
  show wpAny (model X.prog X.w) X.A (richCompare .Eq (.ref p) (.ref q)) _ _ s
  refine GQ.rc_listG (N := xs.length) (by omega) (fun _ s' => Stay X W pins σ L S s') (fun i s' ⟨L', st, o', J⟩ => ?_) (fun s' z => ⟨rfl, z⟩) ⟨L, Stp.refl hL.mz, hL, I⟩
  obtain ⟨p', vs', e1, h1, h2⟩ := (show ∃ a vs, V.ref p = .ref a ∧ L'.H a = some (.lst vs) ∧ RepL W L'.Z L'.H vs xs from (ra.step st).look o' ea)
  obtain ⟨q', us', e2, g1, g2⟩ := (show ∃ a vs, V.ref q = .ref a ∧ L'.H a = some (.lst vs) ∧ RepL W L'.Z L'.H vs ys from (rb.step st).look o' eb)
  cases e1
  cases e2
  obtain ⟨_, its, n, rv, hh⟩ := J.hok _ _ h1
  obtain ⟨_, its', n', rv', hh'⟩ := J.hok _ _ g1
  refine ⟨its.toArray, its'.toArray, n, n', hh, hh', by rw [List.size_toArray, ← rv.length, h2.length], by rw [List.size_toArray, ← rv'.length, g2.length, pairs_len hp], fun k1 k2 => ?_⟩
  obtain ⟨d, w1, z1, z2, z3⟩ := item_of h2 rv k1
  obtain ⟨d', w2, y1, y2, y3⟩ := item_of g2 rv' k2
  exact pair_eq hgu hu hr hi hq (pairs_get hp z1 y1) st o' J z2 y2 z3 y3
theorem tups_ne (hW : W.K = X.K) (hgu : X.A.guards = some []) (hu : X.A.units + 70 < cLine) (hr : Room (k + 1) X.A) (hi : IsF W X.K) (hq : EqsG X.prog X.w X.K X.mg X.base W k tx) {xs ys : List D} (hp : insPairs tx S xs ys) (hL : Ok W L S) (I : Inv X pins σ L.H s) {x y : V} {u v : Value} {a b : RV}
    (ra : RepR W L0 L x a) (rb : RepR W L0 L y b) (ea : a.look S = some (.tup xs)) (eb : b.look S = some (.tup ys)) (rx : RelV x u) (ry : RelV y v) : wpAny (model X.prog X.w) X.A (compareOp .NotEq u v) (fun r s' => r = .bool false ∧ Stay X W pins σ L S s') X.xe s := by
  obtain ⟨p, vs, rfl, hp1, hp2⟩ := (ra.look hL ea).tup
  obtain ⟨q, us, rfl, hq1, hq2⟩ := (rb.look hL eb).tup
  cases rx
  cases ry
  rw [hW] at hp1 hq1
  obtain ⟨its, rv, ⟨o1, e1, c1, n1, d1⟩, _⟩ := I.tuple hp1
  obtain ⟨its', rv', ⟨o2, e2, c2, n2, d2⟩, _⟩ := I.tuple hq1
  obtain ⟨oc1, od1, dt1, sl1⟩ := o1
  obtain ⟨oc2, od2, dt2, sl2⟩ := o2
  dsimp only at c1 c2 d1 d2
  subst c1 c2 d1 d2
  have hsz : its.toArray.size = its'.toArray.size := by rw [List.size_toArray, List.size_toArray, ← rv.length, ← rv'.length, hp2.length, hq2.length, pairs_len hp]
  show wpAny (model X.prog X.w) X.A (richCompare .NotEq (.ref p) (.ref q)) _ _ s
  refine wpAny_richCompare_same_room (op := .NotEq) ⟨_, e1, rfl⟩ ⟨_, e2, rfl⟩ PySem.F.slot_tuple_ne (GQ.call_here PySem.F.slot_tuple_ne ⟨_, e1, rfl⟩ PySem.F.entry_tuple_ne (PySem.F.args_tuple_ne_2 _ _) ?_) (by omega)
  refine tup_neG p q its.toArray its'.toArray n1 n2 od1 od2 sl1 sl2 hsz (fun _ s' => Stay X W pins σ L S s') (fun i k1 k2 s' ⟨L', st, o', J⟩ => ?_) (fun s' z => ⟨(fun z => nomatch z), rfl, z⟩) e1 e2 ⟨L, Stp.refl hL.mz, hL, I⟩
  obtain ⟨d, w1, z1, z2, z3⟩ := item_of (hp2.mono st.keeps) rv k1
  obtain ⟨d', w2, y1, y2, y3⟩ := item_of (hq2.mono st.keeps) rv' k2
  exact pair_eq hgu hu hr hi hq (pairs_get hp z1 y1) st o' J z2 y2 z3 y3
theorem list_in (hgu : X.A.guards = some []) (hu : X.A.units + 70 < cLine) (hr : Room (k + 1) X.A) (hi : IsF W X.K) (hq : EqsG X.prog X.w X.K X.mg X.base W k tx) {xd yd : D} {ys : List D} (hp : insPair tx S yd xd) (hL : Ok W L S) (I : Inv X pins σ L.H s) {x y : V} {u v : Value} {b : RV}
    (ra : RepD W L.Z L.H x xd) (rb : RepR W L0 L y b) (eb : b.look S = some (.lst (yd :: ys))) (rx : RelV x u) (ry : RelV y v) : wpAny (model X.prog X.w) X.A (contains v u) (fun r s' => r = true ∧ Stay X W pins σ L S s') X.xe s := by
  obtain ⟨q, us, rfl, hq1, hq2⟩ := (show ∃ a vs, y = .ref a ∧ L.H a = some (.lst vs) ∧ RepL W L.Z L.H vs (yd :: ys) from rb.look hL eb)
  cases ry
  obtain ⟨_, its, n, rv, hh⟩ := I.hok _ _ hq1
  have hl : 0 < its.toArray.size := by
    rw [List.size_toArray, ← rv.length, hq2.length, List.length_cons]
    omega
  obtain ⟨d, w, z1, z2, z3⟩ := item_of hq2 rv hl
  cases z1
  refine wpAny_contains_slot ⟨_, hh, rfl⟩ PySem.F.slot_list_contains (GQ.call_here PySem.F.slot_list_contains ⟨_, hh, rfl⟩ PySem.F.entry_list_contains (PySem.F.args_list_contains_2 _ _) ?_)
  refine head_in q u its.toArray[0] its.toArray n none #[] (Array.getElem?_eq_getElem hl) hh (wpAny_mono (pair_eq hgu hu hr hi hq hp (Stp.refl hL.mz) hL I z2 ra z3 rx) (fun r s' z => ?_) fun _ _ z => z)
  exact ⟨z.1, wpAny_truthy_bool ⟨rfl, z.2⟩⟩
/-- what a comparison gives, plain or by an own == -/
theorem op_cmpW (hW : W.K = X.K) (hgu : X.A.guards = some []) (hu : X.A.units + 70 < cLine) (hr : Room (k + 1) X.A) (hi : IsF W X.K) (he : EqF W X.K) (hq : EqsG X.prog X.w X.K X.mg X.base W k tx) (op : CmpOp) : OpR X (compareOp op) (rCm W (cmpW tx op)) := by
  intro pins s σ H x y u v Q I rx ry h
  obtain ⟨L0, L, S, a, b, rfl, hL, ra, rb, h⟩ := h
  have own : Out W (fun _ _ _ => False) L S (ownCmp tx op a b S) (fun rv S' L' => ∀ v, RepR W L L' v rv → Q v L'.H) → wpAny (model X.prog X.w) X.A (compareOp op u v) (EP X pins σ Q) X.xe s := by
    clear h
    intro h
    have stay : ∀ {r : Bool} {s' : Shared}, Out W (fun _ _ _ => False) L S (.ok (bv r) S) (fun rv S' L' => ∀ v, RepR W L L' v rv → Q v L'.H) → Stay X W pins σ L S s' → EP X pins σ Q (.bool r) s' := by
      rintro r s' q ⟨L', st, o', J⟩
      exact ⟨.bl r, L'.H, J, rfl, q L' st o' (SS.refl S) _ (.bl r)⟩
    have seq : ∀ {op : CmpOp}, Out W (fun _ _ _ => False) L S (seqEq tx op a b S) (fun rv S' L' => ∀ v, RepR W L L' v rv → Q v L'.H) → wpAny (model X.prog X.w) X.A (compareOp op u v) (EP X pins σ Q) X.xe s := by
      intro op h
      unfold seqEq at h
      split at h
      · rename_i e1 e2
        split at h
        · rename_i hp
          refine wpAny_mono (lists_eq hgu hu hr hi hq hp hL I ra rb e1 e2 rx ry) (fun r s' z => ?_) fun _ _ z => z
          obtain ⟨rfl, z⟩ := z
          exact stay h z
        · exact h.elim
      · rename_i e1 e2
        split at h
        · rename_i hp
          refine wpAny_mono (tups_ne hW hgu hu hr hi hq hp hL I ra rb e1 e2 rx ry) (fun r s' z => ?_) fun _ _ z => z
          obtain ⟨rfl, z⟩ := z
          exact stay h z
        · exact h.elim
      · exact h.elim
    have eqs : ∀ {op : CmpOp} {g : Bool → Bool}, eqOp op = some g → Out W (fun _ _ _ => False) L S (ownEq tx op g a b S) (fun rv S' L' => ∀ v, RepR W L L' v rv → Q v L'.H) → wpAny (model X.prog X.w) X.A (compareOp op u v) (EP X pins σ Q) X.xe s := by
      intro op g ho h
      cases a with
      | tmp o => exact seq (by unfold ownEq at h; exact h)
      | v x' =>
      cases b with
      | tmp o => exact seq (by unfold ownEq at h; exact h)
      | v y' =>
      unfold ownEq at h
      · dsimp only at h
        split at h
        · rename_i c ec
          split at h
          · rename_i hc
            obtain ⟨hh, hk⟩ := hc
            obtain ⟨p, C, dx, gs, ev, hC, hp, _⟩ := ra.cls hL ec
            obtain ⟨f, fd, qs, hM, F, hb⟩ := hq c C hC hh
            obtain ⟨tb, ht, hn⟩ := right_ty hW hi hC hL I ry rb hk
            have hs := own_sp (E := fun _ _ _ => False) hL ra rb h
            subst ev
            cases rx
            exact own_left ho hu hr hgu F hb hM hi he hC I hp ry ht hn hs
          · exact h.elim
        · rename_i c ec' ec
          cases x' with
          | d d =>
            have h : Out W (fun _ _ _ => False) L S (if tx.has (.me c "__eq__") = true ∧ declines d = true then nox (bnd (tx.call (.me c "__eq__") [.v y', .v (.d d)]) (boolG g)) S else .err) (fun rv S' L' => ∀ v, RepR W L L' v rv → Q v L'.H) := h
            split at h
            · rename_i hcc
              obtain ⟨p, C, dx, gs, ev, hC, hp, _⟩ := rb.cls hL ec
              obtain ⟨f, fd, qs, hM, F, hb⟩ := hq c C hC hcc.1
              have hk := hcc.2
              have hs := own_sp (E := fun _ _ _ => False) hL rb (show RepV W L x (.d d) from ra) h
              subst ev
              cases ry
              exact own_right ho hW hu hr hgu F hb hM hi he hC I hp rx (show RepD W L.Z L.H x d from ra) hk hs
            · exact h.elim
          | r i => exact h.elim
        · exact seq h
    have ins : ∀ {k : Bool}, Out W (fun _ _ _ => False) L S (ownIn tx k a b S) (fun rv S' L' => ∀ v, RepR W L L' v rv → Q v L'.H) → wpAny (model X.prog X.w) X.A (contains v u) (fun r s' => r = true ∧ EP X pins σ Q (.bool k) s') X.xe s := by
      intro k h
      cases a with
      | tmp o => exact h.elim
      | v a =>
      cases a with
      | r i => exact h.elim
      | d xd =>
      unfold ownIn at h
      cases e2 : b.look S with
      | none => rw [e2] at h; exact h.elim
      | some bd =>
        rw [e2] at h
        cases bd <;> first | (exact h.elim; done) | skip
        rename_i ys
        cases ys with
        | nil => exact h.elim
        | cons yd ys =>
          dsimp only at h
          split at h
          · rename_i hp
            exact wpAny_mono (list_in hgu hu hr hi hq hp hL I (show RepD W L.Z L.H x xd from ra) rb e2 rx ry) (fun r s' z => ⟨z.1, stay h z.2⟩) fun _ _ z => z
          · exact h.elim
    have isb : ∀ {g : Bool → Bool}, Out W (fun _ _ _ => False) L S (isBl g a b S) (fun rv S' L' => ∀ v, RepR W L L' v rv → Q v L'.H) → ∃ i j : Bool, x = .bl i ∧ y = .bl j ∧ Q (.bl (g (i == j))) L.H := by
      clear h
      intro g h
      cases a with
      | tmp o => exact h.elim
      | v a =>
      cases a with
      | r i => exact h.elim
      | d a =>
      cases b with
      | tmp o => cases a <;> exact h.elim
      | v b =>
      cases b with
      | r i => cases a <;> exact h.elim
      | d b =>
      cases a <;> first | (exact h.elim; done) | skip
      cases b <;> first | (exact h.elim; done) | skip
      rename_i i j
      cases (show RepD W L.Z L.H x (.bl i) from ra)
      cases (show RepD W L.Z L.H y (.bl j) from rb)
      exact ⟨i, j, rfl, rfl, Out.ret hL h _ (.bl _)⟩
    cases op with
    | Eq => exact eqs rfl h
    | NotEq => exact eqs rfl h
    | In =>
      refine wpAny_bind (wpAny_mono (ins (k := true) h) (fun r s' z => ?_) fun _ _ z => z)
      obtain ⟨rfl, z⟩ := z
      exact wpAny_pure z
    | NotIn =>
      refine wpAny_bind (wpAny_mono (ins (k := false) h) (fun r s' z => ?_) fun _ _ z => z)
      obtain ⟨rfl, z⟩ := z
      exact wpAny_pure z
    | Is =>
      obtain ⟨i, j, e1, e2, q⟩ := isb (g := id) h
      exact op_isBl pins s σ L.H x y u v Q I rx ry ⟨i, j, e1, e2, by rw [show decide (i = j) = (i == j) from rfl]; exact q⟩
    | IsNot =>
      obtain ⟨i, j, e1, e2, q⟩ := isb (g := (!·)) h
      exact op_notBl pins s σ L.H x y u v Q I rx ry ⟨i, j, e1, e2, by rw [show decide (i = j) = (i == j) from rfl]; exact q⟩
    | _ => exact h.elim
  unfold cmpW at h
  cases e : cmpV op a b S with
  | ok r S' =>
    rw [e] at h
    exact op_cmpV hW (by omega) op pins s σ L.H x y u v Q I rx ry ⟨L0, L, S, a, b, rfl, hL, ra, rb, by rw [e]; exact h⟩
  | exc z S' => rw [e] at h; exact own h
  | err => rw [e] at h; exact own h
end
end Pk
end
section
set_option Elab.async false
set_option linter.all false
set_option maxRecDepth 100000
set_option maxHeartbeats 2000000
/-! f-strings. -/
namespace Pk
open PySem L2 PyProof.Rows

section
variable {X : Cx} {W : Wd} {a : Expr} {pos : Pos} {tx : Tx} {ma : ME}
theorem ev_fmt {r : Bool} : evE tx (.fmt r ma) = fun ρ => bnd (evE tx ma ρ) fun x => bnd (look1 x) fun d => lift (fmtD r d) := by funext ρ; rw [evE]
theorem of_fmt {r : Bool} {σ : L2.St} {H : Hp} {Q : VK} (h : RdE W WF (evE tx (.fmt r ma)) σ H Q) : tUn (rD1 W fun d => fmtD r d) (RdE W WF (evE tx ma)) σ H Q := RdE.one (fun _ => rfl) (ev_fmt ▸ h)
theorem RdE.conv {m : Pk.Env → M RV} {σ : L2.St} {H : Hp} {Q Q' : VK} (h : RdE W WF m σ H Q) (i : ∀ v H', Q v H' → Q' v H') : RdE W WF m σ H Q' := by
  obtain ⟨L, ρ, S, rfl, hL, hE, h⟩ := h
  exact ⟨L, ρ, S, rfl, hL, hE, h.imp fun rv S' L' s o q h' v r => i _ _ (h' v r)⟩
theorem n_fmt (ha : PE X a (RdE W WF (evE tx ma))) : PE X (.FormattedValue a (-1) none pos) (RdE W WF (evE tx (.fmt false ma))) := by
  refine PE.imp (pe_fmt ha) fun σ H Q q => ?_
  refine RdE.conv (of_fmt q) fun v H1 ⟨Z, d, rv, h1, h2, h3⟩ => ?_
  cases d <;> first | (cases h2; done) | skip
  · obtain ⟨hz, e⟩ := ite_some h2
    subst e
    exact .inr ⟨_, h1.int, hz, h3 _ _ (Fresh.str _)⟩
  · obtain ⟨hz, e⟩ := ite_some h2
    subst e
    exact .inl ⟨_, h1.str, by rw [← line_eq]; exact hz, h3 _ _ (Fresh.str _)⟩
open Classical in
/-- a datum's text, as an f-string asks for it -/
theorem repr_obj (hW : W.K = X.K) (hg : X.A.guards = some []) (hu : X.A.units + 70 < cLine) {Z : Addr → Prop} {H : Hp} {pins : List (Addr × Obj)} {s : Shared} {σ : L2.St} {x : V} {u : Value} {Q : VK} {d : D} {rv : RV} (I : Inv X pins σ H s) (ru : RelV x u)
    (hx : RepT W Z H x d) (e : fmtD true d = some rv) (q : ∀ v H', Fresh W Z H H' v rv → Q v H') : wpAny (model X.prog X.w) X.A (pyReprObj u) (fun r s2 => wpAny (model X.prog X.w) X.A (formatField r Str.empty) (EP X pins σ Q) X.xe s2) X.xe s := by
  have key : ∃ z, reprD d = some z ∧ rv = sv z := by
    cases d <;> first | (cases e; done) | skip
    all_goals
      obtain ⟨z, e1, e2⟩ := Option.map_eq_some_iff.mp e
      exact ⟨z, e1, e2.symm⟩
  obtain ⟨z, e1, rfl⟩ := key
  unfold reprD at e1
  obtain ⟨⟨k1, k2, k3, k4⟩, e2⟩ := ite_some e1
  subst e2
  rw [line_eq] at k4
  have dp := RepT.dp k1 hx
  have q1 := q _ _ (Fresh.str (W := W) d.pd.shown)
  have heap : ∀ (a : Addr) (as : List Addr), u = .ref a → Reads s.heap (.ref a) d.pd as → wpAny (model X.prog X.w) X.A (pyReprObj u) (fun r s2 => wpAny (model X.prog X.w) X.A (formatField r Str.empty) (EP X pins σ Q) X.xe s2) X.xe s := by
    intro a as eu rd
    subst eu
    refine PySem.pyReprObj_of_reads rd k3 (PySem.PyData.noDict_hsm (hasDict_flat k1)) hg (by omega) (fun _ _ e => e) (fun h' t tk hk => ?_) k4
    exact wpAny_formatField_str ⟨.str _, H, I.kept hk, ⟨t, rfl⟩, q1⟩ ⟨.str _, H, (I.kept hk).tok _, ⟨_, rfl⟩, q1⟩ k4
  cases d <;> first | (cases e; done) | skip
  · have hs : (Int.natAbs _).log2 < 1920 := of_decide_eq_true k3
    cases RepT.int hx
    obtain ⟨t, rfl⟩ := ru
    exact pyReprObj_int hs (wpAny_formatField_str ⟨.str _, H, I.tok _, ⟨_, rfl⟩, q1⟩ ⟨.str _, H, I.tok _, ⟨_, rfl⟩, q1⟩ k4)
  · cases RepT.str hx
    obtain ⟨t, rfl⟩ := ru
    exact pyReprObj_str (wpAny_formatField_str ⟨.str _, H, I.tok _, ⟨_, rfl⟩, q1⟩ ⟨.str _, H, I.tok _, ⟨_, rfl⟩, q1⟩ k4) k4
  · obtain ⟨as, rd⟩ := Dp.reads I _ _ u (hW ▸ dp) ru
    cases rd with
    | tuple h1 h2 h3 h4 => exact heap _ _ rfl (.tuple h1 h2 h3 h4)
  · obtain ⟨as, rd⟩ := Dp.reads I _ _ u (hW ▸ dp) ru
    cases rd with
    | list h1 h2 h3 h4 => exact heap _ _ rfl (.list h1 h2 h3 h4)
theorem n_fmtR (hW : W.K = X.K) (hg : X.A.guards = some []) (hu : X.A.units + 70 < cLine) (ha : PE X a (RdE W WF (evE tx ma))) : PE X (.FormattedValue a 114 none pos) (RdE W WF (evE tx (.fmt true ma))) := by
  refine ⟨fun pins s σ H Q I h => ?_⟩
  have h := of_fmt h
  refine wpAny_FormattedValue_repr (thn (ha.run pins s σ H _ I h) fun v s1 ⟨x, H1, I1, r1, Z, d, rv, h1, h2, h3⟩ => ?_)
  exact repr_obj hW hg hu I1 r1 h1 h2 h3
theorem ev_jstr {es : List ME} : evE tx (.jstr es) = fun ρ => evJ tx es Str.empty ρ := by funext ρ; rw [evE]
theorem js_ok : ∀ {ms : List ME} {acc : Str} {L : Lo} {ρ : Pk.Env} {S : Pk.St} {σ : L2.St} {L0 : Lo} {Q : VK}, Ok W L S → RepE W L σ ρ → Stp L0 L → Out W (fun _ _ _ => False) L S (evJ tx ms acc ρ S) (fun rv S' L' => ∀ v, RepR W L0 L' v rv → Q v L'.H) →
    tJs (ms.map fun m => RdE W WF (evE tx m)) acc σ L.H fun out H1 => Q (.str out) H1
  | [], acc, L, ρ, S, σ, L0, Q, hL, hE, st, h => by
    rw [evJ] at h
    exact Out.ret hL h _ (RepD.str _)
  | m :: ms, acc, L, ρ, S, σ, L0, Q, hL, hE, st, h => by
    rw [evJ] at h
    rw [List.map_cons, tJs]
    refine RdE.go hL hE h fun v rv S1 L1 s1 o1 r1 h1 => ?_
    split at h1
    · rename_i y
      split at h1
      · rename_i hl
        cases (show RepD W L1.Z L1.H v (.str y) from r1)
        exact ⟨y, rfl, by rw [← line_eq]; exact hl, js_ok o1 (hE.step s1) (st.trans s1) h1⟩
      · exact h1.elim
    · exact h1.elim
theorem n_jstr {v1 v2 : Expr} {rest : List Expr} {ms : List ME} (h : PJ X (v1 :: v2 :: rest) (ms.map fun m => RdE W WF (evE tx m))) : PE X (.JoinedStr (v1 :: v2 :: rest) pos) (RdE W WF (evE tx (.jstr ms))) := by
  refine PE.imp (pe_joined h) fun σ H Q q => ?_
  obtain ⟨L, ρ, S, rfl, hL, hE, q⟩ := q
  rw [ev_jstr] at q
  exact js_ok hL hE (Stp.refl hL.mz) q
end
end Pk
end
section
set_option Elab.async false
set_option linter.all false
set_option maxRecDepth 100000
/-! Calls with keywords. -/
namespace Pk
open PySem L2 PyProof.Rows

/-! ### values picked -/
theorem paired_get {α β : Type} {R : α → β → Prop} {z : α} {w : β} (hz : R z w) : ∀ {xs : List α} {ys : List β}, Paired R xs ys → ∀ i, R (xs.getD i z) (ys.getD i w)
  | _, _, .nil, i => hz
  | _, _, .cons r t, 0 => r
  | _, _, .cons r t, i + 1 => by
    have := paired_get hz t i
    simpa using this
theorem paired_pick {α β : Type} {R : α → β → Prop} {z : α} {w : β} (hz : R z w) {xs : List α} {ys : List β} (h : Paired R xs ys) : ∀ ns : List Int, Paired R (pick z ns xs) (pick w ns ys)
  | [] => .nil
  | i :: ns => .cons (paired_get hz h i.toNat) (paired_pick hz h ns)
theorem temp_in : ∀ {vs : List V} {as : List RV} {i : Nat} {p : Addr}, tempOf (vs.getD i .non) (as.getD i (dv .non)) = some p → p ∈ temps vs as
  | [], as, i, p, h => by cases h
  | v :: vs, [], i, p, h => by
    rw [show ([] : List RV).getD i (dv .non) = dv .non by simp] at h
    rw [show tempOf ((v :: vs).getD i .non) (dv .non) = none from tempOf_v] at h
    cases h
  | v :: vs, a :: as, 0, p, h => by
    have h : tempOf v a = some p := h
    rw [temps_cons, h]
    exact List.mem_cons_self
  | v :: vs, a :: as, i + 1, p, h => by
    have h := temp_in (vs := vs) (as := as) (i := i) (p := p) (by simpa using h)
    rw [temps_cons]
    cases tempOf v a with
    | none => exact h
    | some q => exact List.mem_cons_of_mem _ h
theorem temp_one : ∀ {vs : List V} {as : List RV}, (temps vs as).Nodup → ∀ {i j : Nat} {p : Addr}, tempOf (vs.getD i .non) (as.getD i (dv .non)) = some p → tempOf (vs.getD j .non) (as.getD j (dv .non)) = some p → i = j
  | [], as, _, i, j, p, h, _ => by cases h
  | v :: vs, [], _, i, j, p, h, _ => by
    rw [show ([] : List RV).getD i (dv .non) = dv .non by simp] at h
    rw [show tempOf ((v :: vs).getD i .non) (dv .non) = none from tempOf_v] at h
    cases h
  | v :: vs, a :: as, nd, 0, 0, p, h, g => rfl
  | v :: vs, a :: as, nd, 0, j + 1, p, h, g => by
    have h : tempOf v a = some p := h
    have g := temp_in (vs := vs) (as := as) (i := j) (p := p) (by simpa using g)
    rw [temps_cons, h] at nd
    exact absurd g (List.nodup_cons.mp nd).1
  | v :: vs, a :: as, nd, i + 1, 0, p, h, g => by
    have g : tempOf v a = some p := g
    have h := temp_in (vs := vs) (as := as) (i := i) (p := p) (by simpa using h)
    rw [temps_cons, g] at nd
    exact absurd h (List.nodup_cons.mp nd).1
  | v :: vs, a :: as, nd, i + 1, j + 1, p, h, g => by
    rw [temps_cons] at nd
    have nd' : (temps vs as).Nodup := by
      cases e : tempOf v a with
      | none => rw [e] at nd; exact nd
      | some q => rw [e] at nd; exact (List.nodup_cons.mp nd).2
    exact congrArg (· + 1) (temp_one nd' (by simpa using h) (by simpa using g))
theorem temps_picked {vs : List V} {as : List RV} : ∀ {ns : List Int} {p : Addr}, p ∈ temps (pick .non ns vs) (pick (dv .non) ns as) → ∃ i ∈ ns, tempOf (vs.getD i.toNat .non) (as.getD i.toNat (dv .non)) = some p
  | [], p, h => by cases h
  | i :: ns, p, h => by
    have h : p ∈ temps (vs.getD i.toNat .non :: pick .non ns vs) (as.getD i.toNat (dv .non) :: pick (dv .non) ns as) := h
    rw [temps_cons] at h
    cases e : tempOf (vs.getD i.toNat .non) (as.getD i.toNat (dv .non)) with
    | none =>
      rw [e] at h
      obtain ⟨j, m, q⟩ := temps_picked h
      exact ⟨j, List.mem_cons_of_mem _ m, q⟩
    | some q =>
      rw [e] at h
      rcases List.mem_cons.mp h with rfl | h
      · exact ⟨i, List.mem_cons_self, e⟩
      · obtain ⟨j, m, q⟩ := temps_picked h
        exact ⟨j, List.mem_cons_of_mem _ m, q⟩
theorem pick_nodup {vs : List V} {as : List RV} (nd : (temps vs as).Nodup) : ∀ {ns : List Int}, (ns.map Int.toNat).Nodup → (temps (pick .non ns vs) (pick (dv .non) ns as)).Nodup
  | [], _ => List.nodup_nil
  | i :: ns, h => by
    rw [List.map_cons, List.nodup_cons] at h
    show (temps (vs.getD i.toNat .non :: pick .non ns vs) (as.getD i.toNat (dv .non) :: pick (dv .non) ns as)).Nodup
    rw [temps_cons]
    cases e : tempOf (vs.getD i.toNat .non) (as.getD i.toNat (dv .non)) with
    | none => exact pick_nodup nd h.2
    | some q =>
      refine List.nodup_cons.mpr ⟨fun m => ?_, pick_nodup nd h.2⟩
      obtain ⟨j, mj, q'⟩ := temps_picked m
      exact h.1 (List.mem_map.mpr ⟨j, mj, temp_one nd q' e⟩)
section
variable {W : Wd} {L0 L : Lo}
theorem RepRs.pick {vs dvs : List V} {as : List RV} {ns : List Int} {ds : List D} (h : RepRs W L0 L vs as) (c : CstL ds dvs) (nd : (ns.map Int.toNat).Nodup) : RepRs W L0 L (Pk.pick .non ns (vs ++ dvs)) (place (.scr ns :: ds) as) := by
  show RepRs W L0 L (Pk.pick .non ns (vs ++ dvs)) (Pk.pick (dv .non) ns (as ++ ds.map dv))
  have h2 : RepRs W L0 L (vs ++ dvs) (as ++ ds.map dv) := by
    refine ⟨paired_app h.all (paired_cst c), ?_⟩
    rw [temps_app (paired_length h.all), temps_cst c, List.append_nil]
    exact h.nd
  exact ⟨paired_pick (R := fun v a => RepR W L0 L v a) (z := .non) (w := dv .non) (show RepD W L.Z L.H .non .non from .non) h2.all ns, pick_nodup h2.nd nd⟩
end
/-! ### arguments one by one -/
section
variable {W : Wd} {tx : Tx} {σ : L2.St} {H : Hp}
def RdL (W : Wd) (tx : Tx) : List ME → TA
  | [] => tNil
  | m :: ms => tCons (RdE W WF (evE tx m)) (RdL W tx ms)
theorem RdE.mono {m : Pk.Env → M RV} {Q Q' : VK} (h : RdE W WF m σ H Q) (i : ∀ v H', Q v H' → Q' v H') : RdE W WF m σ H Q' := by
  obtain ⟨L, ρ, S, rfl, hL, hE, h⟩ := h
  exact ⟨L, ρ, S, rfl, hL, hE, h.imp fun a S' L' _ _ _ q v r => i _ _ (q v r)⟩
theorem RdA.toL : ∀ {ms : List ME} {σ : L2.St} {H : Hp} {Qa : List V → Hp → Prop}, RdA W WF (evL tx ms) σ H Qa → RdL W tx ms σ H Qa
  | [], σ, H, Qa, h => RdA.none rfl h
  | m :: ms, σ, H, Qa, h => by
    have e : evL tx (m :: ms) = fun ρ => bnd (evE tx m ρ) fun x => bnd (evL tx ms ρ) fun xs => ret (x :: xs) := by funext ρ; rw [evL]
    rw [e] at h
    exact RdE.mono (RdA.cons h) fun v H' q => RdA.toL q
theorem RdL_app : ∀ (a b : List ME) (σ : L2.St) (H : Hp) (Qa : List V → Hp → Prop), RdL W tx (a ++ b) σ H Qa → RdL W tx a σ H fun vs H1 => RdL W tx b σ H1 fun zs H2 => Qa (vs ++ zs) H2
  | [], b, σ, H, Qa, h => h
  | m :: a, b, σ, H, Qa, h => by
    have h : RdE W WF (evE tx m) σ H fun v H1 => RdL W tx (a ++ b) σ H1 fun vs H2 => Qa (v :: vs) H2 := h
    exact RdE.mono h fun v H' q => RdL_app a b σ H' _ q
theorem RdL_mono : ∀ {ms : List ME} {σ : L2.St} {H : Hp} {Qa Qb : List V → Hp → Prop}, RdL W tx ms σ H Qa → (∀ vs H', vs.length = ms.length → Qa vs H' → Qb vs H') → RdL W tx ms σ H Qb
  | [], σ, H, Qa, Qb, h, i => i [] H rfl h
  | m :: ms, σ, H, Qa, Qb, h, i => by
    have h : RdE W WF (evE tx m) σ H fun v H1 => RdL W tx ms σ H1 fun vs H2 => Qa (v :: vs) H2 := h
    exact RdE.mono h fun v H' q => RdL_mono q fun vs H2 l z => i (v :: vs) H2 (congrArg (· + 1) l) z
end
section
variable {X : Cx} {W : Wd} {tx : Tx}
theorem pa_L : ∀ {es : List Expr} {ms : List ME}, PJ X es (ms.map fun m => RdE W WF (evE tx m)) → (∀ e ∈ es, nice e = true) → PA X es (RdL W tx ms)
  | [], [], _, _ => pa_nil
  | e :: es, m :: ms, h, hn => by
    cases h with
    | cons h r => exact pa_cons h (pa_L r fun x q => hn x (List.mem_cons_of_mem _ q)) (nice_star (hn e List.mem_cons_self) _ _)
  | [], _ :: _, h, _ => by cases h
  | _ :: _, [], h, _ => by cases h
theorem pk_L : ∀ {kws : List Keyword} {ms : List ME}, PJ X (kws.map (·.value)) (ms.map fun m => RdE W WF (evE tx m)) → PK X kws (RdL W tx ms)
  | [], [], _ => pk_nil
  | ⟨nm, e, p⟩ :: kws, m :: ms, h => by
    cases h with
    | cons h r => exact pk_cons h (pk_L r)
  | [], _ :: _, h => by cases h
  | _ :: _, [], h => by cases h
theorem kw_names {pos : Pos} {env : PySem.Env} : ∀ {kws : List Keyword} {ks : List Str}, kwNames kws = some ks → (backToKw pos (keywordEach kws env)).all (·.1.isSome) = true ∧ (backToKw pos (keywordEach kws env)).filterMap (·.1) = ks ∧ (backToKw pos (keywordEach kws env)).any (·.1.isNone) = false
  | [], ks, h => by cases h; exact ⟨rfl, rfl, rfl⟩
  | ⟨none, _, _⟩ :: _, ks, h => by cases h
  | ⟨some k, e, p⟩ :: r, ks, h => by
    obtain ⟨l, e1, e2⟩ := Option.map_eq_some_iff.mp h
    subst e2
    obtain ⟨a, b, c⟩ := kw_names (pos := pos) (env := env) e1
    refine ⟨?_, ?_, ?_⟩
    · show (true && (backToKw pos (keywordEach r env)).all (·.1.isSome)) = true
      rw [a]
      rfl
    · show k :: (backToKw pos (keywordEach r env)).filterMap (·.1) = _
      rw [b]
    · show (false || (backToKw pos (keywordEach r env)).any (·.1.isNone)) = false
      rw [c]
      rfl
theorem len_names : ∀ {kws : List Keyword} {ks : List Str}, kwNames kws = some ks → ks.length = kws.length
  | [], ks, h => by cases h; rfl
  | ⟨none, _, _⟩ :: _, ks, h => by cases h
  | ⟨some k, e, p⟩ :: r, ks, h => by
    obtain ⟨l, e1, e2⟩ := Option.map_eq_some_iff.mp h
    subst e2
    exact congrArg (· + 1) (len_names e1)
end
/-! ### how keywords are bound -/
def KwB (K : PySem.W.Frag) (fd : FuncData) (qs : List Str) (first : Nat) (ds : List D) (p : KwP) : Prop :=
  (p.ns.map Int.toNat).Nodup ∧ ∃ dvs uvs, CstL ds dvs ∧ Vals dvs uvs ∧ ∀ (s : Shared) (f us ws : List Value), K.In s.heap → f.length = first → us.length = p.n → ws.length = p.ks.length → BindsTo s fd ⟨f ++ us, p.ks.zip ws⟩ (qs.zip (f ++ pick .none p.ns (us ++ ws ++ uvs)))
theorem vals_app {a b : List V} {us ws : List Value} (h : Vals a us) (g : Vals b ws) : Vals (a ++ b) (us ++ ws) := h.append g
theorem vals_get : ∀ {a : List V} {us : List Value}, Vals a us → ∀ i, RelV (a.getD i .non) (us.getD i .none)
  | _, _, .nil, i => rfl
  | _, _, .cons r t, 0 => r
  | _, _, .cons r t, i + 1 => by
    have := vals_get t i
    simpa using this
theorem vals_pick {a : List V} {us : List Value} (h : Vals a us) : ∀ ns : List Int, Vals (pick .non ns a) (pick .none ns us)
  | [] => .nil
  | i :: ns => .cons (vals_get h i.toNat) (vals_pick h ns)
section
variable {X : Cx} {k : Nat} {f C : Addr} {fd : FuncData} {ps : List Str} {sp : Sp} {E : XK} {x : Str} {p pos : Pos} {es : List Expr} {kws : List Keyword} {t tk : TA} {q : KwP} {dvs : List V} {uvs : List Value}
def tCallW (q : KwP) (dvs : List V) (sp : Sp) (E : XK) (t tk : TA) : TE := fun σ H Q => t σ H fun vs H1 => tk σ H1 fun zs H2 => vs.length = q.n ∧ zs.length = q.ks.length ∧ sp (pick .non q.ns (vs ++ zs ++ dvs)) H2 Q E
theorem run_W {pins : List (Addr × Obj)} {σ : L2.St} {H : Hp} {s : Shared} {Q : VK} {us ws : List Value} {vs zs : List V} (F : FnP X.prog X.w X.K X.mg X.base k f fd ps sp) (hr : Room k X.A) (hg : X.A.guards = some []) (hd : Vals dvs uvs)
    (hb : ∀ (s : Shared) (f us ws : List Value), X.K.In s.heap → f.length = 0 → us.length = q.n → ws.length = q.ks.length → BindsTo s fd ⟨f ++ us, q.ks.zip ws⟩ (ps.zip (f ++ pick .none q.ns (us ++ ws ++ uvs))))
    (I : Inv X pins σ H s) (r : Vals vs us) (rz : Vals zs ws) (l1 : vs.length = q.n) (l2 : zs.length = q.ks.length) (h : sp (pick .non q.ns (vs ++ zs ++ dvs)) H Q E) : wpAny (model X.prog X.w) X.A (call (.ref f) us (q.ks.zip ws)) (EP X pins σ Q) X.xe s := by
  have r2 := vals_pick (vals_app (vals_app r rz) hd) q.ns
  refine wpAny_call (codeAny_mono (F.run X.A X.stack s H ⟨us, q.ks.zip ws⟩ _ _ Q E hr hg I.env0 (hb s [] us ws I.kIn rfl (r.length.symm.trans l1) (rz.length.symm.trans l2)) r2 h) ?_)
  intro r s' hq
  cases r with
  | error e => exact hq.elim
  | ok fl => cases fl <;> first | exact I.after hq | exact hq.elim
theorem pe_callW (F : FnP X.prog X.w X.K X.mg X.base k f fd ps sp) (hr : Room k X.A) (hg : X.A.guards = some []) (gl : Gl X x) (hm : X.mg x = some (.ref f)) (hk : PySem.W.keepIn X.K (.ref f) = true) (hd : Vals dvs uvs)
    (hb : ∀ (s : Shared) (f us ws : List Value), X.K.In s.heap → f.length = 0 → us.length = q.n → ws.length = q.ks.length → BindsTo s fd ⟨f ++ us, q.ks.zip ws⟩ (ps.zip (f ++ pick .none q.ns (us ++ ws ++ uvs))))
    (ha : PA X es t) (hkw : PK X kws tk) (hn : kwNames kws = some q.ks) (h0 : es = [] → t = tNil) (hs : ∀ e ∈ es, nice e = true) (hdb : (x == ("__debug__" : Str)) = false) : PE X (.Call (.Name x p) es kws pos) (tCallW q dvs sp E t tk) := by
  obtain ⟨n1, n2, n3⟩ := kw_names (pos := pos) (env := X.env) hn
  refine ⟨fun pins s σ H Q I h => wpAny_Call_Name_kw (ld_glob I gl hm ?_ hdb)⟩
  cases es with
  | nil =>
    rw [h0 rfl] at h
    refine PySem.W.callWith_KW0 (h₀ := X.base) I.ok.mod.kin hk n1 (thn (hkw.run pos pins s σ H _ I h) fun ws s2 ⟨zs, H2, I2, rz, l1, l2, q2⟩ => ⟨I2.kIn, ?_⟩) (by rw [n3]; rfl)
    rw [n2]
    exact run_W (us := []) F hr hg hd hb I2 .nil rz l1 l2 q2
  | cons e es =>
    refine PySem.W.callWith_KW (h₀ := X.base) I.ok.mod.kin hk n1 (thn (ha.run pos pins s σ H _ I h) fun us s1 ⟨vs, H1, I1, r, q1⟩ => ?_) (by rw [n3, Bool.or_false, nice_star (hs e (List.mem_cons_self ..)) es _]; exact stars_nice (fun x q => hs x (List.mem_cons_of_mem _ q)) _ _) (nice_star (hs e (List.mem_cons_self ..)) es _)
    refine thn (hkw.run pos pins s1 σ H1 _ I1 q1) fun ws s2 ⟨zs, H2, I2, rz, l1, l2, q2⟩ => ⟨I2.kIn, ?_⟩
    rw [n2]
    exact run_W F hr hg hd hb I2 r rz l1 l2 q2
def tMakeW (C : Addr) (q : KwP) (dvs : List V) (sp : Sp) (E : XK) (t tk : TA) : TE := fun σ H Q => t σ H fun vs H1 => tk σ H1 fun zs H2 => vs.length = q.n ∧ zs.length = q.ks.length ∧
  ∀ x dx, H2 x = none → H2 dx = none → dx ≠ x → sp (.ref x :: pick .non q.ns (vs ++ zs ++ dvs)) (L2.upd (L2.upd H2 dx (.own x)) x (.ins C dx [])) (fun v H3 => v = .non ∧ Q (.ref x) H3) E
theorem run_makeW {pins : List (Addr × Obj)} {σ : L2.St} {H : Hp} {s : Shared} {Q : VK} {us ws : List Value} {vs zs : List V} (M : Mk X.K C f) (F : FnP X.prog X.w X.K X.mg X.base k f fd ps sp) (hr : Room (k + 1) X.A) (hg : X.A.guards = some []) (hd : Vals dvs uvs)
    (hb : ∀ (s : Shared) (f us ws : List Value), X.K.In s.heap → f.length = 1 → us.length = q.n → ws.length = q.ks.length → BindsTo s fd ⟨f ++ us, q.ks.zip ws⟩ (ps.zip (f ++ pick .none q.ns (us ++ ws ++ uvs))))
    (I : Inv X pins σ H s) (r : Vals vs us) (rz : Vals zs ws) (l1 : vs.length = q.n) (l2 : zs.length = q.ks.length)
    (h : ∀ x dx, H x = none → H dx = none → dx ≠ x → sp (.ref x :: pick .non q.ns (vs ++ zs ++ dvs)) (L2.upd (L2.upd H dx (.own x)) x (.ins C dx [])) (fun v H2 => v = .non ∧ Q (.ref x) H2) E) :
    wpAny (model X.prog X.w) X.A (call (.ref C) us (q.ks.zip ws)) (EP X pins σ Q) X.xe s := by
  have hq := h (s.heap.objs.size + 1) s.heap.objs.size (I.hok.fresh (Nat.le_succ _)) (I.hok.fresh (Nat.le_refl _)) (Nat.ne_of_lt (Nat.lt_succ_self _))
  have J := Inv.made (C := C) I
  have rr : Vals (V.ref (s.heap.objs.size + 1) :: pick .non q.ns (vs ++ zs ++ dvs)) ([Value.ref (s.heap.objs.size + 1)] ++ pick .none q.ns (us ++ ws ++ uvs)) := .cons rfl (vals_pick (vals_app (vals_app r rz) hd) q.ns)
  refine wpAny_call (make_map (f := f) I.kIn M.makes M.init (beq_iff_eq.mp M.fn) (codeAny_mono (F.run _ X.stack _ _ ⟨Value.ref (s.heap.objs.size + 1) :: us, q.ks.zip ws⟩ _ _ _ E (hr.make C us (q.ks.zip ws)) (guards_makeW hg C us _) (J.env0.make C us (q.ks.zip ws)) (hb _ [Value.ref (s.heap.objs.size + 1)] us ws J.kIn rfl (r.length.symm.trans l1) (rz.length.symm.trans l2)) rr hq) ?_))
  intro r s' hq'
  cases r with
  | error e => exact hq'.elim
  | ok fl =>
    cases fl with
    | ret u =>
      obtain ⟨v, H', I3, rv, ev, q3⟩ := J.after hq'
      subst ev
      exact ⟨rv, ⟨V.ref (s.heap.objs.size + 1), H', I3, rfl, q3⟩⟩
    | next => exact hq'.elim
    | brk => exact hq'.elim
    | cont => exact hq'.elim
theorem pe_makeW (M : Mk X.K C f) (F : FnP X.prog X.w X.K X.mg X.base k f fd ps sp) (hr : Room (k + 1) X.A) (hg : X.A.guards = some []) (gl : Gl X x) (hm : X.mg x = some (.ref C)) (hk : PySem.W.keepIn X.K (.ref C) = true) (hd : Vals dvs uvs)
    (hb : ∀ (s : Shared) (f us ws : List Value), X.K.In s.heap → f.length = 1 → us.length = q.n → ws.length = q.ks.length → BindsTo s fd ⟨f ++ us, q.ks.zip ws⟩ (ps.zip (f ++ pick .none q.ns (us ++ ws ++ uvs))))
    (ha : PA X es t) (hkw : PK X kws tk) (hn : kwNames kws = some q.ks) (h0 : es = [] → t = tNil) (hs : ∀ e ∈ es, nice e = true) (hdb : (x == ("__debug__" : Str)) = false) : PE X (.Call (.Name x p) es kws pos) (tMakeW C q dvs sp E t tk) := by
  obtain ⟨n1, n2, n3⟩ := kw_names (pos := pos) (env := X.env) hn
  refine ⟨fun pins s σ H Q I h => wpAny_Call_Name_kw (ld_glob I gl hm ?_ hdb)⟩
  cases es with
  | nil =>
    rw [h0 rfl] at h
    refine PySem.W.callWith_KW0 (h₀ := X.base) I.ok.mod.kin hk n1 (thn (hkw.run pos pins s σ H _ I h) fun ws s2 ⟨zs, H2, I2, rz, l1, l2, q2⟩ => ⟨I2.kIn, ?_⟩) (by rw [n3]; rfl)
    rw [n2]
    exact run_makeW (us := []) M F hr hg hd hb I2 .nil rz l1 l2 q2
  | cons e es =>
    refine PySem.W.callWith_KW (h₀ := X.base) I.ok.mod.kin hk n1 (thn (ha.run pos pins s σ H _ I h) fun us s1 ⟨vs, H1, I1, r, q1⟩ => ?_) (by rw [n3, Bool.or_false, nice_star (hs e (List.mem_cons_self ..)) es _]; exact stars_nice (fun x q => hs x (List.mem_cons_of_mem _ q)) _ _) (nice_star (hs e (List.mem_cons_self ..)) es _)
    refine thn (hkw.run pos pins s1 σ H1 _ I1 q1) fun ws s2 ⟨zs, H2, I2, rz, l1, l2, q2⟩ => ⟨I2.kIn, ?_⟩
    rw [n2]
    exact run_makeW M F hr hg hd hb I2 r rz l1 l2 q2
end
/-! ### from the evaluator's run -/
section
variable {W : Wd} {tx : Tx} {σ : L2.St} {H : Hp} {Q : VK} {E : XK} {ms zs : List ME} {q : KwP} {ds : List D} {dvs : List V}
theorem RdE.callW {m : List RV → M RV} (c : CstL ds dvs) (nd : (q.ns.map Int.toNat).Nodup) (l1 : ms.length = q.n) (l2 : zs.length = q.ks.length) (h : RdE W WF (fun ρ => bnd (evL tx (ms ++ zs) ρ) fun as => m (place (.scr q.ns :: ds) as)) σ H Q) : tCallW q dvs (SpOf W m) E (RdL W tx ms) (RdL W tx zs) σ H Q := by
  have h1 := RdL_app ms zs σ H _ (RdA.toL (RdE.callG (E := E) (fun r => r.pick c nd) h))
  refine RdL_mono h1 fun vs H1 e1 h2 => RdL_mono h2 fun ws H2 e2 h3 => ⟨e1.trans l1, e2.trans l2, h3⟩
theorem RdE.mkW {c : Nat} {C : Addr} (hc : W.cls c = some C) (cd : CstL ds dvs) (nd : (q.ns.map Int.toNat).Nodup) (l1 : ms.length = q.n) (l2 : zs.length = q.ks.length) (h : RdE W WF (fun ρ => bnd (evL tx (ms ++ zs) ρ) fun as => make tx c (place (.scr q.ns :: ds) as)) σ H Q) : tMakeW C q dvs (SpOf W (tx.call (.init c))) E (RdL W tx ms) (RdL W tx zs) σ H Q := by
  have h1 := RdL_app ms zs σ H _ (RdA.toL (RdE.mkG (E := E) hc (fun r => r.pick cd nd) h))
  refine RdL_mono h1 fun vs H1 e1 h2 => RdL_mono h2 fun ws H2 e2 h3 => ⟨e1.trans l1, e2.trans l2, h3⟩
end
end Pk
end
section
set_option Elab.async false
set_option linter.all false
set_option maxRecDepth 100000
set_option maxHeartbeats 1000000
/-! What the translation gives is right: expressions. -/
namespace Pk
open PySem L2 PyProof.Rows

/-! ### names -/
theorem place_get {N : List Str} {x : Str} {i : Nat} (h : placeOf N x = some i) : N[i]? = some x := by
  unfold placeOf at h
  obtain ⟨hi, h1, _⟩ := List.findIdx?_eq_some_iff_getElem.mp h
  rw [List.getElem?_eq_getElem hi, eq_of_beq h1]
theorem kind_dbg {N : List Str} {sc : Scope} {x : Str} {k : NK} (h : kindOf N sc x = some k) : (x == ("__debug__" : Str)) = false ∧ (x == ("__classdict__" : Str)) = false ∧ (x == ("__name__" : Str)) = false := by
  unfold kindOf at h
  split at h
  · cases h
  · rename_i c
    simp only [Bool.or_eq_true, not_or, Bool.not_eq_true] at c
    exact ⟨c.1.1, c.1.2, c.2⟩
theorem kind_slot {N : List Str} {sc : Scope} {x : Str} {i : Nat} (h : kindOf N sc x = some (.slot i)) : Vis sc x ∧ N[i]? = some x := by
  unfold kindOf at h
  split at h
  · cases h
  · split at h
    · rename_i e
      obtain ⟨j, e1, e2⟩ := Option.map_eq_some_iff.mp h
      cases e2
      exact ⟨.inl e, place_get e1⟩
    · rename_i e
      obtain ⟨j, e1, e2⟩ := Option.map_eq_some_iff.mp h
      cases e2
      exact ⟨.inr (.inl e), place_get e1⟩
    · rename_i e
      obtain ⟨j, e1, e2⟩ := Option.map_eq_some_iff.mp h
      cases e2
      exact ⟨.inr (.inr e), place_get e1⟩
    · cases h
    · cases h
theorem kind_glob {N : List Str} {sc : Scope} {x : Str} (h : kindOf N sc x = some .glob) : sc.names.lookup x = some .globalImplicit := by
  unfold kindOf at h
  split at h
  · cases h
  · split at h
    · obtain ⟨j, e1, e2⟩ := Option.map_eq_some_iff.mp h; cases e2
    · obtain ⟨j, e1, e2⟩ := Option.map_eq_some_iff.mp h; cases e2
    · obtain ⟨j, e1, e2⟩ := Option.map_eq_some_iff.mp h; cases e2
    · assumption
    · cases h
theorem isGl_of {N : List Str} {sc : Scope} {x : Str} (h : isGl N sc x = true) : kindOf N sc x = some .glob := by
  unfold isGl at h
  split at h
  · assumption
  · cases h

/-! ### what stands around -/
def btNames : List Str := bfTab.map (·.1) ++ tyTab.map (·.1) ++ (["range", "zip", "enumerate", "isinstance", "set"] : List Str)
structure GF (T : Tab) (tx : Tx) (W : Wd) (k : Nat) (P : Program) (w : World) (K : PySem.W.Frag) (mg : Str → Option Value) (base : Heap) : Prop where
  glob : ∀ x d, tx.glob x = some d → ∃ v u, mg x = some u ∧ RelV v u ∧ ∀ Z H, RepD W Z H v d
  bt : ∀ x ∈ btNames, mg x = none
  fns : ∀ f ps ds, T.funs.lookup f = some (ps, ds) → tx.has (.fn f) = true → ∃ a fd qs, mg f = some (.ref a) ∧ PySem.W.keepIn K (.ref a) = true ∧ FnP P w K mg base k a fd qs (SpOf W (tx.call (.fn f))) ∧
    ∀ j ds', fills ps ds j = some ds' → ∃ dvs us, CstL ds' dvs ∧ Vals dvs us ∧ Binds K fd qs us
  inits : ∀ x c ps ds, placeOf T.cls x = some c → T.inits.lookup x = some (ps, ds) → tx.has (.init c) = true → ∃ C f fd qs, mg x = some (.ref C) ∧ W.cls c = some C ∧ PySem.W.keepIn K (.ref C) = true ∧ Mk K C f ∧ FnP P w K mg base k f fd qs (SpOf W (tx.call (.init c))) ∧
    ∀ j ds', fills ps ds j = some ds' → ∃ dvs us, CstL ds' dvs ∧ Vals dvs us ∧ Binds K fd qs us
  meths : ∀ m ps ds, T.meths.lookup m = some (ps, ds) → (∀ i, W.att i ≠ some m) ∧ ∀ c C, W.cls c = some C → tx.has (.me c m) = true → Cls K C ∧ ∃ f fd qs, Meth K C m f ∧ FnP P w K mg base k f fd qs (SpOf W (tx.call (.me c m))) ∧
    ∀ j ds', fills ps ds j = some ds' → ∃ dvs us, CstL ds' dvs ∧ Vals dvs us ∧ Binds K fd qs us
  duns : ∀ m ∈ T.duns, (∀ i, W.att i ≠ some m) ∧ ∀ c C, W.cls c = some C → tx.has (.me c m) = true → Cls K C ∧ ∃ f fd qs, Meth K C m f ∧ FnP P w K mg base k f fd qs (SpOf W (tx.call (.me c m))) ∧ Binds K fd qs []
  att : ∀ f i, placeOf T.atts f = some i → W.att i = some f ∧ ∀ c C, W.cls c = some C → Cls K C ∧ NoAttr K C f
  isf : IsF W K
  eqf : EqF W K
  eqs : EqsG P w K mg base W k tx
  cls : ∀ x c, placeOf T.cls x = some c → ∃ C, W.cls c = some C ∧ mg x = some (.ref C)
  kfns : ∀ f q ds, (f, (q, ds)) ∈ T.kfn → tx.has (.fn f) = true → ∃ a fd qs, mg f = some (.ref a) ∧ PySem.W.keepIn K (.ref a) = true ∧ FnP P w K mg base k a fd qs (SpOf W (tx.call (.fn f))) ∧ KwB K fd qs 0 ds q
  kins : ∀ x c q ds, placeOf T.cls x = some c → (x, (q, ds)) ∈ T.kin → tx.has (.init c) = true → ∃ C f fd qs, mg x = some (.ref C) ∧ W.cls c = some C ∧ PySem.W.keepIn K (.ref C) = true ∧ Mk K C f ∧ FnP P w K mg base k f fd qs (SpOf W (tx.call (.init c))) ∧ KwB K fd qs 1 ds q
structure Sit (T : Tab) (N : List Str) (tx : Tx) (W : Wd) (k : Nat) (X : Cx) (sc : Scope) : Prop where
  hW : W.K = X.K
  hN : X.N = N
  nd : N.Nodup
  calm : X.calm = true
  gu : X.A.guards = some []
  room : Room (k + 1) X.A
  hsc : X.env.scope = sc
  g : GF T tx W k X.prog X.w X.K X.mg X.base
section
variable {T : Tab} {N : List Str} {tx : Tx} {W : Wd} {k : Nat} {X : Cx} {sc : Scope}
theorem Sit.un (s : Sit T N tx W k X sc) : X.A.units + 70 < cLine := by
  have := s.room.un
  omega
theorem Sit.gl (s : Sit T N tx W k X sc) {x : Str} (h : kindOf N sc x = some .glob) : Gl X x := by
  show X.env.scope.names.lookup x = _
  rw [s.hsc]
  exact kind_glob h
theorem Sit.blk (s : Sit T N tx W k X sc) {s0 : Shared} {H : Hp} {scope : Scope} {cl : List (Str × Addr)} {C : Addr} {fp : List Addr} : Sit T N tx W k (X.blk s0 H scope (compEnvC scope cl C X.env) fp) (L2.relS scope sc) := by
  refine ⟨s.hW, s.hN, s.nd, s.calm, s.gu, s.room, ?_, s.g⟩
  rw [← s.hsc]
  rfl
theorem Sit.ownB (s : Sit T N tx W k X sc) {s0 : Shared} {H : Hp} {scope : Scope} {cl : List (Str × Addr)} {C : Addr} {fp : List Addr} : Own (X.blk s0 H scope (compEnvC scope cl C X.env) fp) scope := by
  refine ⟨fun x h => ?_⟩
  have e : (X.blk s0 H scope (compEnvC scope cl C X.env) fp).env.scope = L2.relS scope X.env.scope := rfl
  rw [e]
  rcases h with h | h
  · have := L2.lookup_relS_keep (sc := X.env.scope) (by decide) h
    exact ⟨.inl this, .inr this⟩
  · have := L2.lookup_relS_keep (sc := X.env.scope) (by decide) h
    exact ⟨.inr this, .inl (by show (scope.names.lookup x == some .cell) = true; rw [h]; rfl)⟩
end
theorem folded_nice {e : Expr} (h : nice e = true) (env : PySem.Env) (x : Value) : foldedSetIterable e env x = pure x := by
  cases e <;> first | rfl | (cases h)
/-- by its truth -/
def plainT : Expr → Bool
  | .UnaryOp .Not _ _ | .BoolOp _ _ _ | .IfExp _ _ _ _ | .Compare _ _ _ _ => false
  | _ => true
theorem plain_truth {e : Expr} (h : plainT e = true) (env : PySem.Env) (whole : Sem Value) : isTrue e env whole = (do let v ← whole; standAt e.pos; holding [v] (truthy v)) := by
  cases e <;> first | rfl | (cases h; done) | skip
  rename_i op e p
  cases op <;> first | rfl | cases h
end Pk
end
section
set_option Elab.async false
set_option linter.all false
set_option maxRecDepth 100000
set_option maxHeartbeats 2000000
/-! Expressions, by induction. -/
namespace Pk
open PySem L2 PyProof.Rows

structure Snd (T : Tab) (N : List Str) (tx : Tx) (W : Wd) (k n : Nat) : Prop where
  J : ∀ {X : Cx} {sc : Scope} {es : List Expr} {ms : List ME}, Sit T N tx W k X sc → trL T N n sc es = some ms → PJ X es (ms.map fun m => RdE W WF (evE tx m))
  E : ∀ {X : Cx} {sc : Scope} {e : Expr} {m : ME}, Sit T N tx W k X sc → trE T N n sc e = some m → PE X e (RdE W WF (evE tx m))
  Te : ∀ {X : Cx} {sc : Scope} {e : Expr} {m : ME}, Sit T N tx W k X sc → tOk e = true → trE T N n sc e = some m → PT X e (RdT W WF fun ρ => testOf (evE tx m ρ))
  L : ∀ {X : Cx} {sc : Scope} {es : List Expr} {ms : List ME}, Sit T N tx W k X sc → trL T N n sc es = some ms → PA X es (RdA W WF (evL tx ms)) ∧ (∀ e ∈ es, nice e = true) ∧ ms.length = es.length
  A : ∀ {X : Cx} {sc : Scope} {es : List Expr} {ms : List ME} {m : ME} {pos : Pos}, Sit T N tx W k X sc → trL T N n sc es = some ms → foldB .and ms = some m → PE X (.BoolOp .And es pos) (RdE W WF (evE tx m)) ∧ (es.all tOk = true → PW X (.BoolOp .And es pos) (RdT W WF fun ρ => testOf (evE tx m ρ)))
  R : ∀ {X : Cx} {sc : Scope} {es : List Expr} {ms : List ME} {m : ME} {pos : Pos}, Sit T N tx W k X sc → trL T N n sc es = some ms → foldB .or ms = some m → PE X (.BoolOp .Or es pos) (RdE W WF (evE tx m)) ∧ (es.all tOk = true → PW X (.BoolOp .Or es pos) (RdT W WF fun ρ => testOf (evE tx m ρ)))
  O : ∀ {X : Cx} {sc : Scope} {o : Option Expr} {m : ME}, Sit T N tx W k X sc → trO T N n sc o = some m → PO X o (RdO W o.isSome (evE tx m))
  S : ∀ {X : Cx} {sc : Scope} {a i : Expr} {m : ME} {pos : Pos}, Sit T N tx W k X sc → trSub T N n sc a i = some m → PE X (.Subscript a i pos) (RdE W WF (evE tx m))
  C : ∀ {X : Cx} {sc scope : Scope} {elt tg it : Expr} {ifs : List Expr} {m : ME} {pos : Pos}, Sit T N tx W k X sc → L2.blkC N sc scope (ownOf N scope) = true → trComp T N n sc scope elt tg it ifs = some m → PE X (.ListComp elt [⟨tg, it, ifs, 0⟩] scope pos) (RdE W WF (evE tx m))
  F : ∀ {X : Cx} {sc : Scope} {f : Str} {as : List Expr} {m : ME} {p pos : Pos}, Sit T N tx W k X sc → kindOf N sc f = some .glob → trCall T N n sc f as = some m → PE X (.Call (.Name f p) as [] pos) (RdE W WF (evE tx m))
  B : ∀ {X : Cx} {sc : Scope} {f : Str} {as : List Expr} {m : ME} {p pos : Pos}, Sit T N tx W k X sc → kindOf N sc f = some .glob → trBf T N n sc f as = some m → PE X (.Call (.Name f p) as [] pos) (RdE W WF (evE tx m))
  B2 : ∀ {X : Cx} {sc : Scope} {f : Str} {as : List Expr} {m : ME} {p pos : Pos}, Sit T N tx W k X sc → kindOf N sc f = some .glob → trBf2 T N n sc f as = some m → PE X (.Call (.Name f p) as [] pos) (RdE W WF (evE tx m))
  I : ∀ {X : Cx} {sc : Scope} {e tg : Expr} {m : Pk.It}, Sit T N tx W k X sc → trI T N n sc e = some m → itOk tg m = true → PI X tg e (RdI W (evI tx m))
section
variable {T : Tab} {N : List Str} {tx : Tx} {W : Wd} {k n : Nat} {X : Cx} {sc : Scope}
theorem snd_zero : Snd T N tx W k 0 := by
  refine ⟨?_, ?_, ?_, ?_, ?_, ?_, ?_, ?_, ?_, ?_, ?_, ?_, ?_⟩
  · intro X sc es ms s h; unfold trL at h; cases h
  · intro X sc e m s h; unfold trE at h; cases h
  · intro X sc e m s _ h; unfold trE at h; cases h
  · intro X sc es ms s h; unfold trL at h; cases h
  · intro X sc es ms m pos s h; unfold trL at h; cases h
  · intro X sc es ms m pos s h; unfold trL at h; cases h
  · intro X sc o m s h; unfold trO at h; cases h
  · intro X sc a i m pos s h; unfold trSub at h; cases h
  · intro X sc scope elt tg it ifs m pos s _ h; unfold trComp at h; cases h
  · intro X sc f as m p pos s _ h; unfold trCall at h; cases h
  · intro X sc f as m p pos s _ h; unfold trBf at h; cases h
  · intro X sc f as m p pos s _ h; unfold trBf2 at h; cases h
  · intro X sc e tg m s h; unfold trI at h; cases h
theorem trL_cons {es : List Expr} {e : Expr} {ms : List ME} (h : trL T N (n + 1) sc (e :: es) = some ms) : ∃ m ms', trE T N n sc e = some m ∧ trL T N n sc es = some ms' ∧ ms = m :: ms' := by
  unfold trL at h
  split at h
  · rename_i e1 e2
    cases h
    exact ⟨_, _, e1, e2, rfl⟩
  · cases h
theorem trL_nil {ms : List ME} (h : trL T N (n + 1) sc [] = some ms) : ms = [] := by
  unfold trL at h
  cases h
  rfl
theorem snd_L (I : Snd T N tx W k n) {es : List Expr} {ms : List ME} (s : Sit T N tx W k X sc) (h : trL T N (n + 1) sc es = some ms) : PA X es (RdA W WF (evL tx ms)) ∧ (∀ e ∈ es, nice e = true) ∧ ms.length = es.length := by
  cases es with
  | nil =>
    have e := trL_nil h
    subst e
    refine ⟨PA.imp pa_nil fun σ H Q q => ?_, (fun _ h => by cases h), rfl⟩
    have e : evL tx [] = fun _ => ret [] := by funext ρ; rw [evL]
    rw [e] at q
    exact RdA.nil q
  | cons e es =>
    obtain ⟨m, ms', e1, e2, e3⟩ := trL_cons h
    subst e3
    obtain ⟨h1, h2, h3⟩ := I.L s e2
    have hn := nice_of e1
    refine ⟨PA.imp (pa_cons (I.E s e1) h1 (nice_star hn _ _)) fun σ H Q q => ?_, fun x hx => ?_, by rw [List.length_cons, List.length_cons, h3]⟩
    · have e : evL tx (m :: ms') = fun ρ => bnd (evE tx m ρ) fun x => bnd (evL tx ms' ρ) fun xs => ret (x :: xs) := by funext ρ; rw [evL]
      rw [e] at q
      exact RdA.cons q
    · rcases List.mem_cons.mp hx with q | q
      · rw [q]; exact hn
      · exact h2 x q
theorem snd_J (I : Snd T N tx W k n) {es : List Expr} {ms : List ME} (s : Sit T N tx W k X sc) (h : trL T N (n + 1) sc es = some ms) : PJ X es (ms.map fun m => RdE W WF (evE tx m)) := by
  cases es with
  | nil =>
    rw [trL_nil h]
    exact .nil
  | cons e es =>
    obtain ⟨m, ms', e1, e2, e3⟩ := trL_cons h
    subst e3
    exact .cons (I.E s e1) (I.J s e2)
theorem ev_and {a b : ME} : evE tx (.and a b) = fun ρ => bnd (evE tx a ρ) fun x => bnd (testOf (ret x)) fun t => if t = true then evE tx b ρ else ret x := by funext ρ; rw [evE]
theorem ev_or {a b : ME} : evE tx (.or a b) = fun ρ => bnd (evE tx a ρ) fun x => bnd (testOf (ret x)) fun t => if t = true then ret x else evE tx b ρ := by funext ρ; rw [evE]
theorem snd_A (I : Snd T N tx W k n) {es : List Expr} {ms : List ME} {m : ME} {pos : Pos} (s : Sit T N tx W k X sc) (h : trL T N (n + 1) sc es = some ms) (hf : foldB .and ms = some m) :
    PE X (.BoolOp .And es pos) (RdE W WF (evE tx m)) ∧ (es.all tOk = true → PW X (.BoolOp .And es pos) (RdT W WF fun ρ => testOf (evE tx m ρ))) := by
  cases es with
  | nil =>
    rw [trL_nil h] at hf
    cases hf
  | cons e es =>
    obtain ⟨m1, ms', e1, e2, e3⟩ := trL_cons h
    subst e3
    cases es with
    | nil =>
      obtain ⟨_, _, h3⟩ := I.L s e2
      have : ms' = [] := List.length_eq_zero_iff.mp h3
      subst this
      cases hf
      exact ⟨pe_one (I.E s e1), fun ht => t_one (I.Te s (by simpa using ht) e1)⟩
    | cons e' es =>
      obtain ⟨_, _, h3⟩ := I.L s e2
      cases ms' with
      | nil => simp at h3
      | cons m2 ms' =>
        obtain ⟨b, e4, e5⟩ := Option.map_eq_some_iff.mp (show (foldB .and (m2 :: ms')).map (ME.and m1) = some m from hf)
        subst e5
        obtain ⟨q1, q2⟩ := I.A (pos := pos) s e2 e4
        rw [ev_and]
        refine ⟨n_and s.hW (I.E s e1) q1, fun ht => ?_⟩
        rw [List.all_cons, Bool.and_eq_true] at ht
        exact t_and (I.Te s ht.1 e1) (q2 ht.2)
theorem snd_R (I : Snd T N tx W k n) {es : List Expr} {ms : List ME} {m : ME} {pos : Pos} (s : Sit T N tx W k X sc) (h : trL T N (n + 1) sc es = some ms) (hf : foldB .or ms = some m) :
    PE X (.BoolOp .Or es pos) (RdE W WF (evE tx m)) ∧ (es.all tOk = true → PW X (.BoolOp .Or es pos) (RdT W WF fun ρ => testOf (evE tx m ρ))) := by
  cases es with
  | nil =>
    rw [trL_nil h] at hf
    cases hf
  | cons e es =>
    obtain ⟨m1, ms', e1, e2, e3⟩ := trL_cons h
    subst e3
    cases es with
    | nil =>
      obtain ⟨_, _, h3⟩ := I.L s e2
      have : ms' = [] := List.length_eq_zero_iff.mp h3
      subst this
      cases hf
      exact ⟨pe_one (I.E s e1), fun ht => t_one (I.Te s (by simpa using ht) e1)⟩
    | cons e' es =>
      obtain ⟨_, _, h3⟩ := I.L s e2
      cases ms' with
      | nil => simp at h3
      | cons m2 ms' =>
        obtain ⟨b, e4, e5⟩ := Option.map_eq_some_iff.mp (show (foldB .or (m2 :: ms')).map (ME.or m1) = some m from hf)
        subst e5
        obtain ⟨q1, q2⟩ := I.R (pos := pos) s e2 e4
        rw [ev_or]
        refine ⟨n_or s.hW (I.E s e1) q1, fun ht => ?_⟩
        rw [List.all_cons, Bool.and_eq_true] at ht
        exact t_or (I.Te s ht.1 e1) (q2 ht.2)
theorem snd_O (I : Snd T N tx W k n) {o : Option Expr} {m : ME} (s : Sit T N tx W k X sc) (h : trO T N (n + 1) sc o = some m) : PO X o (RdO W o.isSome (evE tx m)) := by
  cases o with
  | none =>
    unfold trO at h
    cases h
    exact po_no
  | some e =>
    unfold trO at h
    exact po_yes (I.E s h)
theorem snd_S (I : Snd T N tx W k n) {a i : Expr} {m : ME} {pos : Pos} (s : Sit T N tx W k X sc) (h : trSub T N (n + 1) sc a i = some m) : PE X (.Subscript a i pos) (RdE W WF (evE tx m)) := by
  unfold trSub at h
  split at h
  · obtain ⟨b, e1, e2⟩ := Option.map_eq_some_iff.mp h
    subst e2
    exact n_rev (I.E s e1)
  · split at h
    · rename_i e1 e2 e3
      cases h
      exact n_slc s.hW (I.E s e1) (I.O s e2) (I.O s e3)
    · cases h
  · split at h
    · rename_i e1 e2
      cases h
      have := s.un
      exact n_sub s.hW (by omega) (nice_of e2) (I.E s e1) (I.E s e2)
    · cases h
theorem own_slots {tg : Tg} {it : Pk.It} {t : Expr} {own : List Nat} (h : ((tgSlots tg).all (fun i => own.contains i) && itOk t it) = true) : (∀ j ∈ tgSlots tg, j ∈ own) ∧ itOk t it = true := by
  obtain ⟨h1, h2⟩ := Bool.and_eq_true_iff.mp h
  refine ⟨fun j hj => ?_, h2⟩
  have := List.all_eq_true.mp h1 j hj
  simpa using this
theorem rdt_yes {σ : L2.St} {H : Hp} {Q : Bool → Hp → Prop} (h : RdT W WF (fun ρ => testOf (evE tx (.c (.bl true)) ρ)) σ H Q) : tYes σ H Q := by
  obtain ⟨L, ρ, S, rfl, hL, hE, h⟩ := h
  dsimp only at h
  rw [evE] at h
  exact Out.ret hL (show Out W EF L S (ret true S) _ from h)
theorem PTs.imp {X : Cx} {e : List Expr} {t t' : TT} (h : PTs X e t) (i : ∀ σ H Q, t' σ H Q → t σ H Q) : PTs X e t' := ⟨fun pins s σ H Q I q => h.run pins s σ H Q I (i σ H Q q)⟩
theorem nice_iter {e : Expr} {m : Pk.It} (h : trI T N n sc e = some m) : nice e = true := by
  cases n with
  | zero => unfold trI at h; cases h
  | succ n =>
    unfold trI at h
    split at h
    · rfl
    · rfl
    · rfl
    · obtain ⟨b, e1, e2⟩ := Option.map_eq_some_iff.mp h
      exact nice_of e1
theorem snd_C (I : Snd T N tx W k n) {scope : Scope} {elt tg it : Expr} {ifs : List Expr} {m : ME} {pos : Pos} (s : Sit T N tx W k X sc) (hb : L2.blkC N sc scope (ownOf N scope) = true) (h : trComp T N (n + 1) sc scope elt tg it ifs = some m) :
    PE X (.ListComp elt [⟨tg, it, ifs, 0⟩] scope pos) (RdE W WF (evE tx m)) := by
  unfold trComp at h
  split at h
  · rename_i tg' it' elt' e1 e2 e3
    split at h
    · rename_i ho
      obtain ⟨hs, hi⟩ := own_slots ho
      have ok : BlkOk X.N X.env.scope scope (ownOf N scope) := by
        rw [s.hN, s.hsc]
        exact blkOk_by hb
      have core : ∀ {c : ME} (hc : ∀ (s0 : Shared) (H : Hp) (C : Addr) (cl : List (Str × Addr)) (fp : List Addr), PTs (X.blk s0 H scope (compEnvC scope cl C X.env) fp) ifs (RdT W WF fun ρ => testOf (evE tx c ρ))), nice it = true →
          PE X (.ListComp elt [⟨tg, it, ifs, 0⟩] scope pos) (RdE W WF (evE tx (.comp elt' tg' ((ownOf N scope).map (·.2)) it' c))) := by
        intro c hc hnit
        refine PE.imp (pe_lc s.calm (by rw [s.hN]; exact s.nd) (I.I s e2 hi) ok (fun s0 H C cl fp => pg_of (X := X.blk s0 H scope (compEnvC scope cl C X.env) fp) s.hN s.nd s.calm s.ownB s.hW n e1) hc (fun s0 H C cl fp => I.E s.blk e3) (folded_nice hnit _)) fun σ H Q q => ?_
        exact lc_ok (X := X) hs q
      have hn := nice_iter e2
      split at h
      · cases h
        exact core (fun s0 H C cl fp => PTs.imp pts_nil fun σ H Q q => rdt_yes q) hn
      · split at h
        · rename_i t ht
          obtain ⟨b, e4, e5⟩ := Option.map_eq_some_iff.mp h
          subst e5
          exact core (fun s0 H C cl fp => pts_one (I.Te s.blk ht e4)) hn
        · cases h
      · cases h
    · cases h
  · cases h
theorem bf_bt {x : Str} {f : Bf} (h : bfOf x = some f) : x ∈ btNames := by
  have := find_tab h
  unfold btNames
  exact List.mem_append_left _ (List.mem_append_left _ (List.mem_map.mpr ⟨_, this, rfl⟩))
theorem snd_B2 (I : Snd T N tx W k n) {f : Str} {as : List Expr} {m : ME} {p pos : Pos} (s : Sit T N tx W k X sc) (hk : kindOf N sc f = some .glob) (h : trBf2 T N (n + 1) sc f as = some m) : PE X (.Call (.Name f p) as [] pos) (RdE W WF (evE tx m)) := by
  unfold trBf2 at h
  split at h
  · rename_i b m a e1
    obtain ⟨b2, e2, e3⟩ := Option.map_eq_some_iff.mp h
    subst e3
    have key : (((f = "len" ∧ b = Bf.len ∧ m = "__len__") ∨ (f = "repr" ∧ b = Bf.repr ∧ m = "__repr__")) ∨ (f = "str" ∧ b = Bf.str ∧ m = "__str__")) ∧ m ∈ T.duns ∧ ∃ b', bfOf f = some b' := by
      unfold obOf at e1
      split at e1
      · rename_i c
        obtain ⟨c1, c2⟩ := Bool.and_eq_true_iff.mp c
        cases e1
        have := eq_of_beq c1
        subst this
        exact ⟨.inl (.inl ⟨rfl, rfl, rfl⟩), by simpa using c2, _, rfl⟩
      · split at e1
        · rename_i c
          obtain ⟨c1, c2⟩ := Bool.and_eq_true_iff.mp c
          cases e1
          have := eq_of_beq c1
          subst this
          exact ⟨.inl (.inr ⟨rfl, rfl, rfl⟩), by simpa using c2, _, rfl⟩
        · split at e1
          · rename_i c
            obtain ⟨c1, c2⟩ := Bool.and_eq_true_iff.mp c
            cases e1
            have := eq_of_beq c1
            subst this
            exact ⟨.inr ⟨rfl, rfl, rfl⟩, by simpa using c2, _, rfl⟩
          · cases e1
    obtain ⟨k1, k2, b', k3⟩ := key
    obtain ⟨g1, g2⟩ := s.g.duns m k2
    rcases k1 with k1 | ⟨rfl, rfl, rfl⟩
    · exact n_ob k1 s.hW s.calm s.gu s.un s.room ⟨g1, g2⟩ (s.gl hk) (s.g.bt _ (bf_bt k3)) (nice_of e2) (I.E s e2)
    · exact n_obS s.hW s.calm s.gu s.un s.room ⟨g1, g2⟩ (s.gl hk) (s.g.bt _ (bf_bt k3)) (nice_of e2) (I.E s e2)
  split at h
  · rename_i e1 e2
    cases h
    obtain ⟨h1, h2, h3⟩ := I.L s e2
    exact n_bf s.hW s.calm s.gu s.un e1 (s.gl hk) (s.g.bt _ (bf_bt e1)) (fun e => List.length_eq_zero_iff.mp (by rw [h3, e]; rfl)) h2 h1
  · cases h
theorem fails_call {m : ME} {f : ME → Prop} {e : Expr} (hm : ∀ ρ S, evE tx m ρ S = .err) : PE X e (RdE W WF (evE tx m)) := RdE.fails hm
theorem snd_F (I : Snd T N tx W k n) {f : Str} {as : List Expr} {m : ME} {p pos : Pos} (s : Sit T N tx W k X sc) (hk : kindOf N sc f = some .glob) (h : trCall T N (n + 1) sc f as = some m) : PE X (.Call (.Name f p) as [] pos) (RdE W WF (evE tx m)) := by
  unfold trCall at h
  split at h
  · rename_i c ec
    split at h
    · rename_i ps ds ei
      split at h
      · rename_i ms dl e1 e2
        cases h
        obtain ⟨h1, h2, h3⟩ := I.L s e1
        have ev : evE tx (.mk c ms dl) = fun ρ => if tx.has (.init c) = true then bnd (evL tx ms ρ) fun as => make tx c (place dl as) else fail := by funext ρ; rw [evE]
        rw [ev]
        cases hh : tx.has (.init c) with
        | false =>
          refine RdE.fails fun ρ S => ?_
          rfl
        | true =>
          obtain ⟨C, a, fd, qs, hm, hC, hkp, hM, F, hb⟩ := s.g.inits f c ps ds ec ei hh
          obtain ⟨dvs, us, hd, hv, hB⟩ := hb _ _ e2
          exact PE.imp (pe_makeP (E := EF) ⟨a, fd, qs, us, hM, F, hB, hv⟩ s.room s.gu (s.gl hk) hm hkp h1 (fun e σ H Q q => RdA.none (List.length_eq_zero_iff.mp (by rw [h3, e]; rfl)) q) h2 (kind_dbg hk).1) fun σ H Q q => RdE.mk hC hd q
      · cases h
    · cases h
  · split at h
    · rename_i ps ds ei
      split at h
      · rename_i ms dl e1 e2
        cases h
        obtain ⟨h1, h2, h3⟩ := I.L s e1
        have ev : evE tx (.call f ms dl) = fun ρ => if tx.has (.fn f) = true then bnd (evL tx ms ρ) fun as => tx.call (.fn f) (place dl as) else fail := by funext ρ; rw [evE]
        rw [ev]
        cases hh : tx.has (.fn f) with
        | false =>
          refine RdE.fails fun ρ S => ?_
          rfl
        | true =>
          obtain ⟨a, fd, qs, hm, hkp, F, hb⟩ := s.g.fns f ps ds ei hh
          obtain ⟨dvs, us, hd, hv, hB⟩ := hb _ _ e2
          exact PE.imp (pe_callP (E := EF) F (s.room.mono (Nat.le_succ k)) s.gu (s.gl hk) hm hkp hB hv h1 (fun e σ H Q q => RdA.none (List.length_eq_zero_iff.mp (by rw [h3, e]; rfl)) q) h2 (kind_dbg hk).1) fun σ H Q q => RdE.call hd q
      · cases h
    · exact I.B s hk h
theorem pi_fails {tg e : Expr} {m : Pk.Env → M Walk} (hm : ∀ ρ S, m ρ S = .err) : PI X tg e (RdI W m) := ⟨fun pins s σ H Q I h => by
  obtain ⟨L, ρ, S, _, _, _, h⟩ := h
  rw [hm] at h
  exact h.elim⟩
theorem bt_in {x : Str} (h : x = "range" ∨ x = "zip" ∨ x = "enumerate" ∨ x = "isinstance" ∨ x = "set") : x ∈ btNames := by
  unfold btNames
  refine List.mem_append_right _ ?_
  rcases h with rfl | rfl | rfl | rfl | rfl <;> decide +kernel
theorem snd_I (I : Snd T N tx W k n) {e tg : Expr} {m : Pk.It} (s : Sit T N tx W k X sc) (h : trI T N (n + 1) sc e = some m) (ht : itOk tg m = true) : PI X tg e (RdI W (evI tx m)) := by
  have base : ∀ {e : Expr} {m : Pk.It}, (trE T N n sc e).map .e = some m → PI X tg e (RdI W (evI tx m)) := by
    intro e m h
    obtain ⟨b, e1, e2⟩ := Option.map_eq_some_iff.mp h
    subst e2
    exact n_ie s.hW (I.E s e1)
  unfold trI at h
  split at h
  · split at h
    · rename_i f p as pos kk hk
      split at h
      · rename_i hf
        have hf : f = "range" := eq_of_beq hf
        subst hf
        split at h
        · rename_i hl
          obtain ⟨ms, e1, e2⟩ := Option.map_eq_some_iff.mp h
          subst e2
          obtain ⟨h1, h2, h3⟩ := I.L s e1
          rcases hl with hl | hl
          · match as, hl, h1, h2, h3 with
            | [a], _, h1, h2, h3 => exact n_range1 (s.gl hk) (s.g.bt _ (bt_in (.inl rfl))) (h2 a (by simp)) h3 h1
          · match as, hl, h1, h2, h3 with
            | [a, b], _, h1, h2, h3 => exact n_range2 (s.gl hk) (s.g.bt _ (bt_in (.inl rfl))) (h2 a (by simp)) (h2 b (by simp)) h3 h1
        · cases h
      · split at h
        · rename_i hf
          have hf : f = "zip" := eq_of_beq hf
          subst hf
          split at h
          · rename_i hl
            obtain ⟨ms, e1, e2⟩ := Option.map_eq_some_iff.mp h
            subst e2
            obtain ⟨h1, h2, h3⟩ := I.L s e1
            match as, hl, h1, h2, h3 with
            | [a, b], _, h1, h2, h3 =>
              cases tg <;> first | (cases ht; done) | skip
              exact n_zip s.hW (s.gl hk) (s.g.bt _ (bt_in (.inr (.inl rfl)))) (h2 a (by simp)) (h2 b (by simp)) h1
          · cases h
        · split at h
          · split at h
            · cases h
              exact pi_fails fun ρ S => by rw [evI]; rfl
            · cases h
          · exact base h
    · cases h
  · split at h
    · obtain ⟨b, e1, e2⟩ := Option.map_eq_some_iff.mp h
      subst e2
      exact pi_fails fun ρ S => by rw [evI]; rfl
    · exact base h
  · split at h
    · obtain ⟨b, e1, e2⟩ := Option.map_eq_some_iff.mp h
      subst e2
      exact pi_fails fun ρ S => by rw [evI]; rfl
    · split at h
      · obtain ⟨b, e1, e2⟩ := Option.map_eq_some_iff.mp h
        subst e2
        exact pi_fails fun ρ S => by rw [evI]; rfl
      · exact base h
  · exact base h
end
end Pk
end
section
set_option Elab.async false
set_option linter.all false
set_option maxRecDepth 100000
set_option maxHeartbeats 2000000
/-! Expressions, the last cases. -/
namespace Pk
open PySem L2 PyProof.Rows

section
variable {T : Tab} {N : List Str} {tx : Tx} {W : Wd} {k n : Nat} {X : Cx} {sc : Scope}
theorem ty_ok (s : Sit T N tx W k X sc) {x : Str} {t : Ty} {p : Pos} (h : tyOf T x = some t) (hg : kindOf N sc x = some .glob) : ∃ u, tyVal W t = some u ∧ ∀ v, tyVv W t = some v → PE X (.Name x p) (tC v) := by
  unfold tyOf at h
  split at h
  · rename_i q e
    cases h
    have hm : (x, q.2) ∈ tyTab := find_tab (by rw [e]; rfl)
    have hb : x ∈ btNames := List.mem_append_left _ (List.mem_append_right _ (List.mem_map.mpr ⟨_, hm, rfl⟩))
    have hx := (kind_dbg hg).1
    unfold tyTab at hm
    simp only [List.mem_cons, Prod.mk.injEq, List.not_mem_nil, or_false] at hm
    have fin : ∀ {t : Ty} {z : String}, tyVal W t = some (.type z) → bootBuiltins x = some (.type z) → x ≠ "__name__" → ∃ u, tyVal W t = some u ∧ ∀ v, tyVv W t = some v → PE X (.Name x p) (tC v) := fun {t z} h1 h2 h3 =>
      ⟨_, h1, fun v hv => pe_type h1 hv (s.gl hg) hx (.inr ⟨s.g.bt _ hb, h2, h3⟩)⟩
    rcases hm with ⟨e1, e2⟩ | ⟨e1, e2⟩ | ⟨e1, e2⟩ | ⟨e1, e2⟩ | ⟨e1, e2⟩ | ⟨e1, e2⟩
    all_goals
      rw [e2]
      subst e1
      exact fin rfl (by decide +kernel) (by decide +kernel)
  · obtain ⟨c, e1, e2⟩ := Option.map_eq_some_iff.mp h
    subst e2
    obtain ⟨C, hC, hm⟩ := s.g.cls x c e1
    have h1 : tyVal W (.own c) = some (.ref C) := by show (W.cls c).map Value.ref = _; rw [hC]; rfl
    exact ⟨_, h1, fun v hv => pe_type h1 hv (s.gl hg) (kind_dbg hg).1 (.inl hm)⟩
theorem tys_ok (s : Sit T N tx W k X sc) : ∀ {es : List Expr} {ts : List Ty}, seqO (es.map fun t => match t with
          | .Name t _ => if isGl N sc t = true then tyOf T t else none
          | _ => none) = some ts → ∃ us vs, Paired (fun t u => tyVal W t = some u) ts us ∧ Paired ClsV vs us ∧ PA X es (fun _ H Q => Q vs H) ∧ vs.length = es.length
  | [], ts, h => by
    cases h
    exact ⟨[], [], .nil, .nil, pa_nil, rfl⟩
  | e :: es, ts, h => by
    obtain ⟨t, ts', e1, e2, e3⟩ := seqO_cons h
    subst e3
    obtain ⟨us, vs, h1, h2, h3, h4⟩ := tys_ok s e2
    cases e <;> first | (cases e1; done) | skip
    rename_i x p
    obtain ⟨hg, e1⟩ := ite_some' e1
    obtain ⟨u, hu, hv⟩ := ty_ok (p := p) s e1 (isGl_of hg)
    obtain ⟨v, ev, cv⟩ := tyVv_some hu
    exact ⟨u :: us, v :: vs, .cons hu h1, .cons cv h2, pa_cons (hv v ev) h3 rfl, by rw [List.length_cons, List.length_cons, h4]⟩
theorem str_and {a b : Bool} (h : (a && b) = true) : a = true ∧ b = true := Bool.and_eq_true_iff.mp h
theorem snd_B (I : Snd T N tx W k n) {f : Str} {as : List Expr} {m : ME} {p pos : Pos} (s : Sit T N tx W k X sc) (hk : kindOf N sc f = some .glob) (h : trBf T N (n + 1) sc f as = some m) : PE X (.Call (.Name f p) as [] pos) (RdE W WF (evE tx m)) := by
  have bfm : ∀ {x : Str} {b : Bf}, bfOf x = some b → X.mg x = none := fun e => s.g.bt _ (bf_bt e)
  unfold trBf at h
  split at h
  · split at h
    · rename_i hc
      obtain ⟨hc, hgl⟩ := str_and hc
      obtain ⟨hf, hgs⟩ := str_and hc
      have hf := eq_of_beq hf
      have hgs := eq_of_beq hgs
      subst hf hgs
      obtain ⟨b, e1, e2⟩ := Option.map_eq_some_iff.mp h
      subst e2
      exact n_sset s.hW s.calm s.gu s.un (s.gl hk) (bfm (b := .sorted) (by decide +kernel)) (s.gl (isGl_of hgl)) (s.g.bt _ (bt_in (.inr (.inr (.inr (.inr rfl)))))) (nice_of e1) (I.E s e1)
    · split at h
      · rename_i hc
        obtain ⟨hc, hgl⟩ := str_and hc
        obtain ⟨hf, hgs⟩ := str_and hc
        have hf := eq_of_beq hf
        have hgs := eq_of_beq hgs
        subst hf hgs
        obtain ⟨b, e1, e2⟩ := Option.map_eq_some_iff.mp h
        subst e2
        exact n_lset s.hW s.calm s.gu s.un (s.gl hk) (bfm (b := .len) (by decide +kernel)) (s.gl (isGl_of hgl)) (s.g.bt _ (bt_in (.inr (.inr (.inr (.inr rfl)))))) (nice_of e1) (I.E s e1)
      · exact I.B2 s hk h
  · split at h
    · rename_i hc
      obtain ⟨hc, hz⟩ := str_and hc
      cases hz
    · split at h
      · rename_i hc
        obtain ⟨hc, hz⟩ := str_and hc
        cases hz
      · exact I.B2 s hk h
  · split at h
    · rename_i hc
      obtain ⟨hf, hgl⟩ := str_and hc
      have hf := eq_of_beq hf
      subst hf
      split at h
      · rename_i e1 e2
        cases h
        obtain ⟨u, hu, hT⟩ := ty_ok s e2 (isGl_of hgl)
        exact n_isi1 s.hW s.g.isf (I.E s e1) (nice_of e1) hu hT (s.gl hk) (s.g.bt _ (bt_in (.inr (.inr (.inr (.inl rfl))))))
      · cases h
    · exact I.B2 s hk h
  · split at h
    · rename_i hc
      obtain ⟨hf, hlen⟩ := str_and hc
      have hlen := of_decide_eq_true hlen
      have hf := eq_of_beq hf
      subst hf
      split at h
      · rename_i e1 e2
        cases h
        obtain ⟨us, vs, h1, h2, h3, h4⟩ := tys_ok s e2
        refine n_isiT s.hW s.g.isf (I.E s e1) (nice_of e1) h1 h2 h3 ?_ (s.gl hk) (s.g.bt _ (bt_in (.inr (.inr (.inr (.inl rfl))))))
        rw [h4]
        unfold line
        omega
      · cases h
    · exact I.B2 s hk h
  · exact I.B2 s hk h
theorem ev_tup {ms : List ME} : evE tx (.tup ms) = fun ρ => bnd (evL tx ms ρ) fun as => lift ((dats as).bind fun ds => if ds.length ≤ line then some (dv (.tup ds)) else none) := by funext ρ; rw [evE]
theorem ev_lst {ms : List ME} : evE tx (.lst ms) = fun ρ => bnd (evL tx ms ρ) fun as => lift ((dats as).bind fun ds => if ds.length ≤ line then some (tmpL ds) else none) := by funext ρ; rw [evE]
theorem ev_not {a : ME} : evE tx (.not a) = fun ρ => bnd (testOf (evE tx a ρ)) fun b => ret (bv (!b)) := by funext ρ; rw [evE]
theorem ev_cmp {op : CmpOp} {a b : ME} : evE tx (.cmp op a b) = fun ρ => bnd (evE tx a ρ) fun x => bnd (evE tx b ρ) fun y => cmpW tx op x y := by funext ρ; rw [evE]
theorem ev_chn {o1 o2 : CmpOp} {a b c : ME} : evE tx (.chn o1 o2 a b c) = fun ρ => bnd (evE tx a ρ) fun x => bnd (evE tx b ρ) fun y => bnd (testOf (cmpV o1 x y)) fun t => if t = true then bnd (evE tx c ρ) fun z => cmpV o2 y z else ret (bv false) := by funext ρ; rw [evE]
theorem ev_ite {t a b : ME} : evE tx (.ite t a b) = fun ρ => bnd (testOf (evE tx t ρ)) fun k => if k = true then evE tx a ρ else evE tx b ρ := by funext ρ; rw [evE]
theorem ev_meth {o : ME} {m : Str} {es : List ME} {ds : List D} : evE tx (.meth o m es ds) = fun ρ => bnd (evE tx o ρ) fun x => fun S => match clsOf S x with
    | some c => if tx.has (.me c m) = true then bnd (evL tx es ρ) (fun as => tx.call (.me c m) (x :: place ds as)) S else .err
    | none => .err := by funext ρ; rw [evE] <;> rfl
theorem last_marks {o1 o2 : CmpOp} {b c : Expr} (h : nice c = true) : lastMarks [o1, o2] [b, c] = false := by
  show lastMarks [o2] [c] = false
  exact nice_marks h o2
theorem bm_mem {m : Str} {b : Bm} (h : bmOf m = some b) : (m, b) ∈ bmTab := find_tab h
theorem bm_pack (s : Sit T N tx W k X sc) {m : Str} {b : Bm} (h : bmOf m = some b) : ∀ kd, bmOk kd b = true → BmPk X W b m kd := by
  have hm := bm_mem h
  have hu := s.un
  have key : ∀ kd, bmOk kd b = true → (kd = .lst ∧ b = .append) ∨ (kd = .lst ∧ b = .pop) ∨ (kd = .lst ∧ b = .clear) ∨ (kd = .lst ∧ b = .count) ∨ (kd = .dic ∧ b = .get) ∨ (kd = .str ∧ b = .join) := by
    intro kd hk
    cases kd <;> cases b <;> simp_all [bmOk]
  intro kd hk
  have nm : ∀ {z : Str}, (∀ q ∈ bmTab, q.2 = b → q.1 = z) → m = z := fun hz => hz _ hm rfl
  rcases key kd hk with ⟨rfl, rfl⟩ | ⟨rfl, rfl⟩ | ⟨rfl, rfl⟩ | ⟨rfl, rfl⟩ | ⟨rfl, rfl⟩ | ⟨rfl, rfl⟩
  · have e : m = "append" := nm (by decide +kernel)
    subst e
    exact ⟨_, PySem.F.plainAttrs_list, PySem.F.slot_list_append, PySem.F.type_list_append, mb_append⟩
  · have e : m = "pop" := nm (by decide +kernel)
    subst e
    exact ⟨_, PySem.F.plainAttrs_list, PySem.F.slot_list_pop, PySem.F.type_list_pop, mb_pop⟩
  · have e : m = "clear" := nm (by decide +kernel)
    subst e
    exact ⟨_, PySem.F.plainAttrs_list, PySem.F.slot_list_clear, PySem.F.type_list_clear, mb_clear⟩
  · have e : m = "count" := nm (by decide +kernel)
    subst e
    exact ⟨_, PySem.F.plainAttrs_list, PySem.F.slot_list_count, PySem.F.type_list_count, mb_count s.hW (by omega)⟩
  · have e : m = "get" := nm (by decide +kernel)
    subst e
    exact ⟨_, PySem.F.plainAttrs_dict, PySem.F.slot_dict_get, PySem.F.type_dict_get, mb_get (by omega)⟩
  · have e : m = "join" := nm (by decide +kernel)
    subst e
    exact ⟨_, PySem.F.plainAttrs_str, PySem.F.slot_str_join, PySem.F.type_str_join, mb_join s.hW⟩
theorem kw_found {l : List (Str × (KwP × List D))} {f : Str} {n : Nat} {ks : List Str} {p : KwP × List D} (h : kwFind l f n ks = some p) : (f, p) ∈ l ∧ p.1.n = n ∧ p.1.ks = ks := by
  obtain ⟨x, e1, e2⟩ := Option.map_eq_some_iff.mp h
  have m := List.mem_of_find?_eq_some e1
  have g := List.find?_some e1
  have g : x.1 = f ∧ x.2.1.n = n ∧ x.2.1.ks = ks := of_decide_eq_true g
  subst e2
  obtain ⟨g1, g2, g3⟩ := g
  refine ⟨?_, g2, g3⟩
  rw [← g1]
  exact m
/-- a call with keywords -/
theorem snd_K (I : Snd T N tx W k n) {f : Str} {as : List Expr} {kw : Keyword} {kws : List Keyword} {m : ME} {p pos : Pos} {ks : List Str} {ms zs : List ME} (s : Sit T N tx W k X sc) (hk : kindOf N sc f = some .glob) (hn : kwNames (kw :: kws) = some ks) (e1 : trL T N n sc as = some ms) (e2 : trL T N n sc ((kw :: kws).map (·.value)) = some zs)
    (h : (match placeOf T.cls f with
        | some c => (kwFind T.kin f as.length ks).map fun p => .mk c (ms ++ zs) (.scr p.1.ns :: p.2)
        | none => (kwFind T.kfn f as.length ks).map fun p => .call f (ms ++ zs) (.scr p.1.ns :: p.2)) = some m) : PE X (.Call (.Name f p) as (kw :: kws) pos) (RdE W WF (evE tx m)) := by
  obtain ⟨h1, h2, h3⟩ := I.L s e1
  obtain ⟨_, _, h4⟩ := I.L s e2
  have j1 := I.J s e1
  have j2 := I.J s e2
  have h0 : as = [] → RdL W tx ms = tNil := fun e => by
    have : ms = [] := List.length_eq_zero_iff.mp (by rw [h3, e]; rfl)
    rw [this]
    rfl
  have lz : zs.length = ks.length := by rw [h4, List.length_map, len_names hn]
  split at h
  · rename_i c ec
    obtain ⟨q, f1, f2⟩ := Option.map_eq_some_iff.mp h
    obtain ⟨g1, g2, g3⟩ := kw_found f1
    subst f2
    obtain ⟨q, ds⟩ := q
    have ev : evE tx (.mk c (ms ++ zs) (.scr q.ns :: ds)) = fun ρ => if tx.has (.init c) = true then bnd (evL tx (ms ++ zs) ρ) fun as => make tx c (place (.scr q.ns :: ds) as) else fail := by funext ρ; rw [evE]
    rw [ev]
    cases hh : tx.has (.init c) with
    | false =>
      refine RdE.fails fun ρ S => ?_
      rfl
    | true =>
      obtain ⟨C, a, fd, qs, hm, hC, hkp, hM, F, nd, dvs, uvs, cd, hd, hb⟩ := s.g.kins f c q ds ec g1 hh
      exact PE.imp (pe_makeW (E := EF) (q := q) hM F s.room s.gu (s.gl hk) hm hkp hd hb (pa_L j1 h2) (pk_L j2) (by rw [g3]; exact hn) h0 h2 (kind_dbg hk).1) fun σ H Q r => RdE.mkW hC cd nd (h3.trans g2.symm) (by rw [g3]; exact lz) r
  · obtain ⟨q, f1, f2⟩ := Option.map_eq_some_iff.mp h
    obtain ⟨g1, g2, g3⟩ := kw_found f1
    subst f2
    obtain ⟨q, ds⟩ := q
    have ev : evE tx (.call f (ms ++ zs) (.scr q.ns :: ds)) = fun ρ => if tx.has (.fn f) = true then bnd (evL tx (ms ++ zs) ρ) fun as => tx.call (.fn f) (place (.scr q.ns :: ds) as) else fail := by funext ρ; rw [evE]
    rw [ev]
    cases hh : tx.has (.fn f) with
    | false =>
      refine RdE.fails fun ρ S => ?_
      rfl
    | true =>
      obtain ⟨a, fd, qs, hm, hkp, F, nd, dvs, uvs, cd, hd, hb⟩ := s.g.kfns f q ds g1 hh
      exact PE.imp (pe_callW (E := EF) (q := q) F (s.room.mono (Nat.le_succ k)) s.gu (s.gl hk) hm hkp hd hb (pa_L j1 h2) (pk_L j2) (by rw [g3]; exact hn) h0 h2 (kind_dbg hk).1) fun σ H Q r => RdE.callW cd nd (h3.trans g2.symm) (by rw [g3]; exact lz) r
theorem snd_E (I : Snd T N tx W k n) {e : Expr} {m : ME} (s : Sit T N tx W k X sc) (h : trE T N (n + 1) sc e = some m) : PE X e (RdE W WF (evE tx m)) := by
  have hu := s.un
  unfold trE at h
  split at h
  · obtain ⟨d, e1, e2⟩ := Option.map_eq_some_iff.mp h
    subst e2
    exact n_const e1
  · split at h
    · rename_i hk
      cases h
      obtain ⟨hv, hN⟩ := kind_slot hk
      exact n_var (by rw [s.hN]; exact hN) (by rw [s.hsc]; exact hv) (kind_dbg hk).1 (kind_dbg hk).2.1
    · rename_i hk
      cases h
      exact n_glob (s.gl hk) (s.g.glob _) (kind_dbg hk).1
    · cases h
  · obtain ⟨ms, e1, e2⟩ := Option.map_eq_some_iff.mp h
    subst e2
    obtain ⟨h1, _, _⟩ := I.L s e1
    rw [ev_tup]
    refine PE.imp (pe_tup h1) fun σ H Q q => RdE.tup (fun ds rv e => ?_) q
    obtain ⟨hl, e⟩ := ite_some e
    exact ⟨hl, e.symm⟩
  · obtain ⟨ms, e1, e2⟩ := Option.map_eq_some_iff.mp h
    subst e2
    obtain ⟨h1, _, _⟩ := I.L s e1
    rw [ev_lst]
    refine PE.imp (pe_lst h1) fun σ H Q q => RdE.lst (fun ds rv e => ?_) q
    obtain ⟨hl, e⟩ := ite_some e
    exact ⟨hl, e.symm⟩
  · split at h
    · rename_i es hks
      obtain ⟨hc, h⟩ := ite_some' h
      obtain ⟨hc, hz⟩ := str_and hc
      cases hz
    · cases h
  · split at h
    · rename_i e1 e2
      cases h
      exact n_bin s.hW (I.E s e1) (I.E s e2)
    · cases h
  · obtain ⟨b, e1, e2⟩ := Option.map_eq_some_iff.mp h
    subst e2
    exact n_neg (I.E s e1)
  · obtain ⟨ht, h⟩ := ite_some' h
    obtain ⟨b, e1, e2⟩ := Option.map_eq_some_iff.mp h
    subst e2
    rw [ev_not]
    exact n_not s.hW (I.E s e1)
  · obtain ⟨ht, h⟩ := ite_some' h
    obtain ⟨ms, e1, e2⟩ := Option.bind_eq_some_iff.mp h
    exact (I.A s e1 e2).1
  · obtain ⟨ht, h⟩ := ite_some' h
    obtain ⟨ms, e1, e2⟩ := Option.bind_eq_some_iff.mp h
    exact (I.R s e1 e2).1
  · obtain ⟨ht, h⟩ := ite_some' h
    split at h
    · rename_i e1 e2 e3
      cases h
      rw [ev_ite]
      exact n_ite (I.Te s ht e1) (I.E s e2) (I.E s e3)
    · cases h
  · split at h
    · rename_i e1 e2
      cases h
      rw [ev_cmp]
      exact n_cmp (fun _ _ _ _ _ h => cmpW_exc h) (op_cmpW s.hW s.gu hu s.room s.g.isf s.g.eqf s.g.eqs _) (I.E s e1) (I.E s e2) (nice_marks (nice_of e2) _)
    · cases h
  · split at h
    · rename_i e1 e2 e3
      cases h
      rw [ev_chn]
      exact n_chn (op_cmpV s.hW (by omega) _) (op_cmpV s.hW (by omega) _) (I.E s e1) (I.E s e2) (I.E s e3) (last_marks (nice_of e3))
    · cases h
  · exact I.S s h
  · split at h
    · rename_i hb e1 e2
      cases h
      obtain ⟨ha, hC⟩ := s.g.att _ _ e2
      exact n_attr hb (nice_of e1) (I.E s e1) ha hC
    · cases h
  · obtain ⟨hb, h⟩ := ite_some' h
    exact I.C s hb h
  · split at h
    · rename_i hk
      split at h
      · cases h
      · exact I.F s hk h
    · cases h
  · split at h
    · rename_i ks ms zs hk hn e1 e2
      exact snd_K I s hk hn e1 e2 h
    · cases h
  · split at h
    · cases h
    · rename_i hc
      have hc := (Bool.not_eq_false _).mp hc
      obtain ⟨hc, hp⟩ := str_and hc
      obtain ⟨hb, hl⟩ := str_and hc
      have hl := of_decide_eq_true hl
      split at h
      · rename_i hbm
        split at h
        · rename_i e1 e2
          cases h
          obtain ⟨h1, h2, h3⟩ := I.L s e2
          exact PE.imp (pe_bmP (bm_pack s hbm) (I.E s e1) h1 (fun e σ H Q q => RdA.none (List.length_eq_zero_iff.mp (by rw [h3, e]; rfl)) q) hb (nice_of e1) h2 hl hp) fun σ H Q q => RdE.bm s.hW q
        · cases h
      · cases h
      · split at h
        · rename_i em
          split at h
          · rename_i mo ms dl e1 e2 e3
            cases h
            obtain ⟨h1, h2, h3⟩ := I.L s e2
            obtain ⟨hna, hM⟩ := s.g.meths _ _ _ em
            refine PE.imp (pe_methP (E := EF) (I.E s e1) (s.room.mono (Nat.le_succ k)) s.gu h1 (fun e σ H Q q => RdA.none (List.length_eq_zero_iff.mp (by rw [h3, e]; rfl)) q) hb (nice_of e1) h2 hl hp) fun σ H Q q => RdE.meth (tx := tx) (ds := dl) hna (fun c C hC hh => ?_) ?_
            · obtain ⟨hCl, f, fd, qs, hMe, F, hB⟩ := hM c C hC hh
              obtain ⟨dvs, us, hd, hv, hB⟩ := hB _ _ e3
              exact ⟨dvs, hd, hCl, f, fd, qs, us, hMe, F, hB, hv⟩
            · rw [ev_meth] at q
              exact q
          · cases h
        · cases h
      · cases h
  · split at h
    · rename_i hc
      obtain ⟨b, e1, e2⟩ := Option.map_eq_some_iff.mp h
      subst hc e2
      exact n_fmt (I.E s e1)
    · split at h
      · rename_i hc
        obtain ⟨b, e1, e2⟩ := Option.map_eq_some_iff.mp h
        subst hc e2
        exact n_fmtR s.hW s.gu s.un (I.E s e1)
      · cases h
  · obtain ⟨ms, e1, e2⟩ := Option.map_eq_some_iff.mp h
    subst e2
    exact n_jstr (I.J s e1)
  · cases h
theorem snd_T (I : Snd T N tx W k n) {e : Expr} {m : ME} (s : Sit T N tx W k X sc) (ht : tOk e = true) (h : trE T N (n + 1) sc e = some m) : PT X e (RdT W WF fun ρ => testOf (evE tx m ρ)) := by
  have hu := s.un
  by_cases hp : plainT e = true
  · exact n_truth s.hW (snd_E I s h) (plain_truth hp _)
  · cases e <;> first | (exact absurd rfl hp) | (cases ht; done) | skip
    · rename_i op es pos
      unfold trE at h
      cases op with
      | And =>
        obtain ⟨hto, h⟩ := ite_some' h
        obtain ⟨ms, e1, e2⟩ := Option.bind_eq_some_iff.mp h
        exact ((I.A s e1 e2).2 hto).pt
      | Or =>
        obtain ⟨hto, h⟩ := ite_some' h
        obtain ⟨ms, e1, e2⟩ := Option.bind_eq_some_iff.mp h
        exact ((I.R s e1 e2).2 hto).pt
    · rename_i op a pos
      cases op <;> first | (exact absurd rfl hp) | skip
      unfold trE at h
      obtain ⟨hto, h⟩ := ite_some' h
      obtain ⟨b, e1, e2⟩ := Option.map_eq_some_iff.mp h
      subst e2
      rw [ev_not]
      exact t_not (I.Te s hto e1)
    · rename_i a ops cs pos
      match ops, cs, h with
      | [op], [b], h =>
        unfold trE at h
        dsimp only at h
        split at h
        · rename_i e1 e2
          cases h
          rw [ev_cmp]
          exact t_cmp (fun _ _ _ _ _ h => cmpW_exc h) (fun _ _ _ _ _ h => cmpW_ok h) (op_cmpW s.hW s.gu hu s.room s.g.isf s.g.eqf s.g.eqs _) (I.E s e1) (I.E s e2) (nice_marks (nice_of e2) _)
        · cases h
      | [op, op'], [b, c], h =>
        unfold trE at h
        dsimp only at h
        split at h
        · rename_i e1 e2 e3
          cases h
          rw [ev_chn]
          exact t_chn (op_cmpV s.hW (by omega) _) (op_cmpV s.hW (by omega) _) (I.E s e1) (I.E s e2) (I.E s e3) (last_marks (nice_of e3))
        · cases h
      | [], _, h => unfold trE at h; cases h
      | [_], [], h => unfold trE at h; cases h
      | [_], _ :: _ :: _, h => unfold trE at h; cases h
      | [_, _], [], h => unfold trE at h; cases h
      | [_, _], [_], h => unfold trE at h; cases h
      | [_, _], _ :: _ :: _ :: _, h => unfold trE at h; cases h
      | _ :: _ :: _ :: _, _, h => unfold trE at h; cases h
theorem snd_all : ∀ n, Snd T N tx W k n
  | 0 => snd_zero
  | n + 1 => by
    have I : Snd T N tx W k n := snd_all n
    exact ⟨fun s h => snd_J I s h, fun s h => snd_E I s h, fun s ht h => snd_T I s ht h, fun s h => snd_L I s h, fun s h hf => snd_A I s h hf, fun s h hf => snd_R I s h hf, fun s h => snd_O I s h, fun s h => snd_S I s h, fun s hb h => snd_C I s hb h, fun s hk h => snd_F I s hk h, fun s hk h => snd_B I s hk h, fun s hk h => snd_B2 I s hk h, fun s h ht => snd_I I s h ht⟩
end
end Pk
end
section
set_option Elab.async false
set_option linter.all false
set_option maxRecDepth 100000
set_option maxHeartbeats 2000000
/-! Attributes written, several names, statements by induction. -/
namespace Pk
open PySem L2 PyProof.Rows

section
variable {X : Cx} {W : Wd} {L0 L L' L1 : Lo} {S S' S1 : Pk.St}
theorem RepFV.len : ∀ {fs : List (Nat × Val)} {gs : List (Str × V)}, RepFV W L gs fs → gs.length = fs.length
  | [], _, h => by cases h; rfl
  | (_, _) :: _, _, h => by cases h with | cons _ _ h2 => rw [List.length_cons, List.length_cons, RepFV.len h2]
theorem RepFV.put {f : Str} {i : Nat} {y : V} {x : Val} (hf : W.att i = some f) (hx : RepV W L y x) : ∀ {fs : List (Nat × Val)} {gs : List (Str × V)}, RepFV W L gs fs → RepFV W L (L2.putF f y gs) (Pk.putF i x fs)
  | [], _, h => by cases h; exact .cons hf hx .nil
  | (j, z) :: fs, _, h => by
    cases h with
    | cons h0 h1 h2 =>
      rename_i g w gs
      unfold L2.putF Pk.putF
      by_cases e : j = i
      · subst e
        rw [hf] at h0
        cases h0
        rw [if_pos rfl, if_pos rfl]
        exact .cons hf hx h2
      · have e2 : g ≠ f := fun q => by
          subst q
          exact e (W.inj j i _ h0 hf)
        rw [if_neg e2, if_neg e]
        exact .cons h0 h1 (RepFV.put hf hx h2)
theorem mem_putF {i : Nat} {x : Val} {p : Nat × Val} : ∀ {fs : List (Nat × Val)}, p ∈ Pk.putF i x fs → p = (i, x) ∨ p ∈ fs
  | [], h => .inl (List.mem_singleton.mp h)
  | (j, y) :: fs, h => by
    unfold Pk.putF at h
    split at h
    · rcases List.mem_cons.mp h with h | h
      · exact .inl h
      · exact .inr (List.mem_cons_of_mem _ h)
    · rcases List.mem_cons.mp h with h | h
      · exact .inr (by rw [h]; exact List.mem_cons_self ..)
      · exact (mem_putF h).imp id (List.mem_cons_of_mem _)
/-- o.f = e -/
theorem attrA_ok {σ : L2.St} {H : Hp} {D : Ends} {tx : Tx} {f : Nat} {g : Str} {c : Bool} {mo me : ME} (hf : W.att f = some g) (hC : ∀ c C, W.cls c = some C → Cls X.K C ∧ NoAttr X.K C g) (h : RdS W (evS tx (.attrA mo f c me)) D σ H) :
    sFld X.K (RdE W WF (evE tx mo)) (RdE W WF (evE tx me)) g D σ H := by
  obtain ⟨L, ρ, S, rfl, hL, hE, h⟩ := h
  rw [evS] at h
  show RdE W WF (evE tx me) σ L.H fun y H1 => RdE W WF (evE tx mo) σ H1 fun x H2 => _
  refine RdE.at hL.refl hL (SS.refl S) hE h fun v a S1 L1 s1 o1 q1 r1 h1 => ?_
  obtain ⟨x, Lb, S2, eH, s2, o2, q2, rx, kp, h2⟩ := out_lay s1 o1 q1 r1 h1
  rw [← eH]
  refine RdE.at s2 o2 q2 (hE.step s2) h2 fun ov oa S3 L3 s3 o3 q3 r3 h3 => ?_
  have h4 : Out W EF L S (bnd (putAttr oa f x) (fun _ => ret (Fl.nx, ρ)) S3) fun p _ L' => FlOk W L L' D p := h3
  unfold bnd putAttr at h4
  cases oa with
  | tmp ob => exact h4.elim
  | v ox =>
    cases ox with
    | d d => exact h4.elim
    | r k =>
      dsimp only at h4
      cases ec : S3.cells[k]? with
      | none => simp only [ec] at h4; exact h4.elim
      | some ob =>
        cases ob with
        | lst _ => simp only [ec] at h4; exact h4.elim
        | dic _ => simp only [ec] at h4; exact h4.elim
        | ins c0 fs =>
          simp only [ec] at h4
          by_cases hlen : fs.length < 900
          · rw [if_pos hlen] at h4
            obtain ⟨p, em, ev⟩ := r3
            subst ev
            have hp : p ∈ L3.m := List.mem_of_getElem? em
            obtain ⟨C, dx, gs, hc, hH, hr⟩ := o3.cel k p _ em ec
            obtain ⟨hC1, hC2⟩ := hC c0 C hc
            refine ⟨p, C, dx, gs, rfl, hH, hC1, hC2, by rw [hr.len]; omega, ?_⟩
            have rx3 : RepV W L3 v x := rx.step s3
            have nr := hr.put hf rx3
            have st := Stp.wr (u := HO.ins C dx (L2.putF g v gs)) o3 hp
            have ow : Ok W (L3.wr p (.ins C dx (L2.putF g v gs))) { S3 with cells := S3.cells.set k (.ins c0 (Pk.putF f x fs)) } := o3.wr em id ⟨C, dx, _, hc, upd_same, nr.step st⟩
            have hE' : RepE W (L3.wr p (.ins C dx (L2.putF g v gs))) σ ρ := (((hE.step s2).step s3).step st)
            have refs : ∀ (o : MObj) n i, (S3.cells.set k (.ins c0 (Pk.putF f x fs)))[i]? = some o → i ≠ k → (∀ o, S3.cells[i]? = some o → RefsLt n o) → RefsLt n o := fun o n i e hne hr => by
              rw [List.getElem?_set_ne (Ne.symm hne)] at e
              exact hr o e
            cases x with
            | d xd =>
              have h5 : Out W EF L S (ret (Fl.nx, ρ) { S3 with cells := S3.cells.set k (.ins c0 (Pk.putF f (.d xd) fs)) }) fun p _ L' => FlOk W L L' D p := h4
              refine h5 (L3.wr p (.ins C dx (L2.putF g v gs))) (s2.trans (s3.trans st)) ow (q2.trans (q3.trans ?_)) σ hE'
              refine ⟨by show _ ≤ (S3.cells.set k _).length; rw [List.length_set]; exact Nat.le_refl _, [], rfl, fun n i hn hi _ hr o e => ?_⟩
              by_cases hik : i = k
              · subst hik
                have e : (S3.cells.set i (MObj.ins c0 (Pk.putF f (.d xd) fs)))[i]? = some o := e
                have hk : i < S3.cells.length := by
                  have := (List.getElem?_eq_some_iff.mp e).1
                  rwa [List.length_set] at this
                rw [List.getElem?_set_self hk] at e
                cases e
                intro q hq j ej
                rcases mem_putF hq with z | z
                · rw [z] at ej; cases ej
                · exact hr _ ec q z j ej
              · exact refs o n i e hik hr
            | r j =>
              have h5 : Out W EF L S (ret (Fl.nx, ρ) { cells := S3.cells.set k (.ins c0 (Pk.putF f (.r j) fs)), esc := k :: S3.esc }) fun p _ L' => FlOk W L L' D p := h4
              refine h5 (L3.wr p (.ins C dx (L2.putF g v gs))) (s2.trans (s3.trans st)) (ow.esc _) (q2.trans (q3.trans ?_)) σ hE'
              refine ⟨by show _ ≤ (S3.cells.set k _).length; rw [List.length_set]; exact Nat.le_refl _, [k], rfl, fun n i hn hi hne hr o e => ?_⟩
              exact refs o n i e (fun z => hne (by rw [z]; exact List.mem_singleton.mpr rfl)) hr
          · rw [if_neg hlen] at h4
            exact h4.elim
theorem par3_ok {σ : L2.St} {H : Hp} {D : Ends} {tx : Tx} {i j l : Nat} {ci cj cl : Bool} {ms : List ME} (h : RdS W (evS tx (.par [(i, ci), (j, cj), (l, cl)] ms)) D σ H) : tPar3 i j l (RdA W WF (evL tx ms)) D σ H := by
  refine (par_at h).imp fun vs H1 q => ?_
  obtain ⟨hl, q⟩ := q
  match vs, hl, q with
  | [u, v, w], _, q => exact ⟨u, v, w, rfl, q H1 fun _ _ e => e⟩
end
/-! ### names in a row -/
section
variable {X : Cx} {W : Wd} {N : List Str} {sc : Scope}
theorem own_get {x : Str} {i : Nat} (h : ownSlot N sc x = some i) : Loc sc x ∧ N[i]? = some x := by
  obtain ⟨h1, h2⟩ := ownSlot_of h
  exact ⟨h1, h2⟩
theorem pgs_names (hN : X.N = N) (nd : N.Nodup) (ho : Own X sc) {mu : List Str} : ∀ {ts : List Expr} {is : List (Nat × Bool)}, seqO (ts.map (nmSlot N mu sc)) = some is → PGs X ts (gNms is) ∧ (assignEach ts X.env).length = is.length ∧ (assignEach ts X.env).findIdx? (·.1) = none
  | [], is, h => by
    cases h
    refine ⟨PGs.imp pgs_nil fun vs σ H Q q => ?_, rfl, rfl⟩
    obtain ⟨hl, q⟩ := q
    have : vs = [] := List.length_eq_zero_iff.mp hl
    subst this
    exact ⟨rfl, q⟩
  | t :: ts, is, h => by
    obtain ⟨i, is', e1, e2, e3⟩ := seqO_cons h
    subst e3
    obtain ⟨h1, h2, h3⟩ := pgs_names hN nd ho e2
    cases t <;> first | (cases e1; done) | skip
    rename_i x p
    obtain ⟨j, e4, e5⟩ := Option.map_eq_some_iff.mp e1
    subst e5
    obtain ⟨hk, hi⟩ := ownSlot_of e4
    obtain ⟨hl, hf⟩ := ho.own x hk
    have hpl : assignEach (Expr.Name x p :: ts) X.env = (false, assign (.Name x p) X.env) :: assignEach ts X.env := rfl
    refine ⟨PGs.imp (pgs_cons (pg_name (by rw [hN]; exact nd) (by rw [hN]; exact hi) hl hf) h1 (by rw [hpl]; rfl)) fun vs σ H Q q => ?_, by rw [hpl, List.length_cons, h2, List.length_cons], by rw [hpl, List.findIdx?_cons]; simp [h3]⟩
    obtain ⟨hl, q⟩ := q
    cases vs with
    | nil => cases hl
    | cons v vs => exact ⟨v, vs, rfl, by simpa using hl, q⟩
theorem sws_tuple {ts : List Expr} {kt : Nat} {p : Pos} {e : Expr} {l : Nat} {env : PySem.Env} : swapsWithSole [.Tuple ts kt p] e l env = pure false := by
  cases e <;> rfl
theorem sws_sub {o i : Expr} {p : Pos} {e : Expr} {l : Nat} {env : PySem.Env} : swapsWithSole [.Subscript o i p] e l env = pure false := by
  cases e <;> rfl
theorem sw_no {e : Expr} {t : Option Expr} {l : Nat} {env : PySem.Env} (hn : nice e = true) (h : isComp e = false) : swapsWith e t l env = pure false := by
  cases e <;> first | rfl | (cases h; done) | (cases hn; done)
theorem sw_fld {o e : Expr} {f : Str} {p : Pos} {l : Nat} {env : PySem.Env} : swapsWith e (some (.Attribute o f p)) l env = pure false := by
  cases e <;> rfl
theorem swp_no {t e : Expr} {env : PySem.Env} (h : isTup e = false) (hn : nice e = true) : swappedStores [t] e env = pure none := by
  cases e <;> first | (cases h; done) | (cases hn; done) | (cases t <;> rfl)
theorem swp_sub {o i : Expr} {p : Pos} {e : Expr} {env : PySem.Env} : swappedStores [.Subscript o i p] e env = pure none := by
  cases e <;> rfl
theorem no_star {es : List Expr} (h : ∀ e ∈ es, nice e = true) : (es.any fun | .Starred .. => true | _ => false) = false := by
  rw [List.any_eq_false]
  intro e he
  have := h e he
  cases e <;> first | exact Bool.false_ne_true | (cases this)
theorem dups2 {x y : Str} (h : x ≠ y) : [x, y].eraseDups.length = 2 := by
  have e1 : (y == x) = false := by
    cases q : y == x with
    | false => rfl
    | true => exact (h (eq_of_beq q).symm).elim
  simp [List.eraseDups_cons, e1]
theorem dups3 {x y z : Str} (h : x ≠ y) (h2 : x ≠ z) (h3 : y ≠ z) : [x, y, z].eraseDups.length = 3 := by
  have ne : ∀ {a b : Str}, a ≠ b → (b == a) = false := fun {a b} h => by
    cases q : b == a with
    | false => rfl
    | true => exact (h (eq_of_beq q).symm).elim
  simp [List.eraseDups_cons, ne h, ne h2, ne h3]
theorem swp_yes2 {x y : Str} {px py pt p2 : Pos} {kt k2 : Nat} {a b : Expr} {env : PySem.Env} (hk : env.scope.kind = .function) (hx : env.scope.names.lookup x = some .local) (hy : env.scope.names.lookup y = some .local) (hl : (py.line == px.line) = true) (hne : x ≠ y) (hn : ∀ e ∈ [a, b], nice e = true)
    (h1 : ([a, b].all (foldedForSure 8)) = false) (h2 : ([a, b].all (constantsAlone 8)) = false) : swappedStores [.Tuple [.Name x px, .Name y py] kt pt] (.Tuple [a, b] k2 p2) env = pure (some [x, y]) := by
  have hbk : env.blockKind = .function := by unfold Env.blockKind; rw [hk]; rfl
  have kx : env.kindOf x = some .local := hx
  have ky : env.kindOf y = some .local := hy
  have e2 := dups2 hne
  have hl' : py.line = px.line := eq_of_beq hl
  have n1 := hn a (by simp)
  have n2 := hn b (by simp)
  unfold swappedStores
  simp only [List.length_cons, List.length_nil, hbk]
  simp [kx, ky, hl', e2, Expr.pos]
  rw [if_neg (by
    rintro (h | h)
    · cases a <;> first | (cases n1; done) | (cases h; done)
    · cases b <;> first | (cases n2; done) | (cases h; done))]
  rw [if_neg (by rintro ⟨q1, q2⟩; simp [q1, q2] at h1), if_neg (by rintro ⟨q1, q2⟩; simp [q1, q2] at h2)]
theorem swp_yes3 {x y z : Str} {px py pz pt p2 : Pos} {kt k2 : Nat} {a b c : Expr} {env : PySem.Env} (hk : env.scope.kind = .function) (hx : env.scope.names.lookup x = some .local) (hy : env.scope.names.lookup y = some .local) (hz : env.scope.names.lookup z = some .local)
    (hl : (py.line == px.line) = true) (hlz : (pz.line == px.line) = true) (hne : x ≠ y) (hnz : x ≠ z) (hyz : y ≠ z) (hn : ∀ e ∈ [a, b, c], nice e = true)
    (h1 : ([a, b, c].all (foldedForSure 8)) = false) (h2 : ([a, b, c].all (constantsAlone 8)) = false) : swappedStores [.Tuple [.Name x px, .Name y py, .Name z pz] kt pt] (.Tuple [a, b, c] k2 p2) env = pure (some [x, y, z]) := by
  have hbk : env.blockKind = .function := by unfold Env.blockKind; rw [hk]; rfl
  have kx : env.kindOf x = some .local := hx
  have ky : env.kindOf y = some .local := hy
  have kz : env.kindOf z = some .local := hz
  have e2 := dups3 hne hnz hyz
  have hl' : py.line = px.line := eq_of_beq hl
  have hlz' : pz.line = px.line := eq_of_beq hlz
  have n1 := hn a (by simp)
  have n2 := hn b (by simp)
  have n3 := hn c (by simp)
  unfold swappedStores
  simp only [List.length_cons, List.length_nil, hbk]
  simp [kx, ky, kz, hl', hlz', e2, Expr.pos]
  rw [if_neg (by
    rintro (h | h | h)
    · cases a <;> first | (cases n1; done) | (cases h; done)
    · cases b <;> first | (cases n2; done) | (cases h; done)
    · cases c <;> first | (cases n3; done) | (cases h; done))]
  rw [if_neg (by rintro ⟨q1, q2, q3⟩; simp [q1, q2, q3] at h1), if_neg (by rintro ⟨q1, q2, q3⟩; simp [q1, q2, q3] at h2)]
/-- a name is no plain one of the def, or the names are too many -/
theorem swp_none {ts es : List Expr} {kt k2 : Nat} {pt p2 : Pos} {env : PySem.Env} (hk : env.scope.kind = .function) (hs : env.scope = sc) (h : unswapped sc ts es = true) : swappedStores [.Tuple ts kt pt] (.Tuple es k2 p2) env = pure none := by
  have hbk : env.blockKind = .function := by unfold Env.blockKind; rw [hk]; rfl
  have kc : ∀ {x : Str}, (sc.names.lookup x == some .cell) = true → env.kindOf x = some .cell := fun {x} q => by
    show env.scope.names.lookup x = _
    rw [hs]
    exact eq_of_beq q
  unfold unswapped at h
  split at h
  · rename_i x px y py a b
    unfold swappedStores
    simp only [List.length_cons, List.length_nil, hbk]
    rcases Bool.or_eq_true_iff.mp h with h | h
    · have kx := kc h
      have h9 : ∀ f : Expr → Option Str, (List.filterMap f [Expr.Name y py]).length ≤ 1 := fun f => List.length_filterMap_le f _
      simp [kx, Expr.pos]
      intro _ _ q
      exact absurd (q ▸ h9 _) (by decide)
    · have ky := kc h
      have h9 : ∀ f : Expr → Option Str, f (.Name y py) = none → (List.filterMap f [Expr.Name x px, Expr.Name y py]).length ≤ 1 := fun f hf => by
        rw [List.filterMap_cons, List.filterMap_cons, hf]
        split <;> simp
      simp [ky, Expr.pos]
      intro _ _ q
      exact absurd (q ▸ h9 _ (by simp [ky])) (by decide)
  · rename_i x px y py z pz a b c
    unfold swappedStores
    simp only [List.length_cons, List.length_nil, hbk]
    have h9 : ∀ f : Expr → Option Str, f (.Name x px) = none ∨ f (.Name y py) = none ∨ f (.Name z pz) = none → (List.filterMap f [Expr.Name x px, Expr.Name y py, Expr.Name z pz]).length ≤ 2 := fun f hf => by
      rcases hf with hf | hf | hf
      · rw [List.filterMap_cons, hf]
        exact List.length_filterMap_le f _
      · rw [List.filterMap_cons, List.filterMap_cons, hf]
        have := List.length_filterMap_le f [Expr.Name z pz]
        split
        · simp only [List.length_cons, List.length_nil] at this ⊢; omega
        · simp only [List.length_cons, List.length_nil] at this ⊢; omega
      · rw [List.filterMap_cons, List.filterMap_cons, List.filterMap_cons, hf]
        split <;> split <;> simp
    simp [Expr.pos]
    intro _ _ _ q
    refine absurd (q ▸ h9 _ ?_) (by decide)
    rcases Bool.or_eq_true_iff.mp h with h | h
    · rcases Bool.or_eq_true_iff.mp h with h | h
      · exact .inl (by simp [kc h])
      · exact .inr (.inl (by simp [kc h]))
    · exact .inr (.inr (by simp [kc h]))
  · have h3 := of_decide_eq_true h
    unfold swappedStores
    simp [show ts.length ≠ 2 by omega, show ts.length ≠ 3 by omega]
end
end Pk
end
section
set_option Elab.async false
set_option linter.all false
set_option maxRecDepth 100000
set_option maxHeartbeats 2000000
/-! Statements, by induction. -/
namespace Pk
open PySem L2 PyProof.Rows

structure SitS (T : Tab) (N : List Str) (tx : Tx) (W : Wd) (k : Nat) (X : Cx) (sc : Scope) : Prop where
  s : Sit T N tx W k X sc
  pass : PassesOwn (model X.prog X.w) X.A X.env X.xe
  own : Own X sc
  kind : X.env.scope.kind = .function
structure SndS (T : Tab) (N mu : List Str) (tx : Tx) (W : Wd) (k n : Nat) : Prop where
  S : ∀ {X : Cx} {sc : Scope} {e : Stmt} {m : MS}, SitS T N tx W k X sc → trS T N mu n sc e = some m → PS X e (RdS W (evS tx m))
  S1 : ∀ {X : Cx} {sc : Scope} {e : Stmt} {m : MS}, SitS T N tx W k X sc → trS1 T N mu n sc e = some m → PS X e (RdS W (evS tx m))
  A : ∀ {X : Cx} {sc : Scope} {t e : Expr} {m : MS} {pos : Pos}, SitS T N tx W k X sc → trA T N mu n sc t e = some m → PS X (.Assign [t] e pos) (RdS W (evS tx m))
  B : ∀ {X : Cx} {sc : Scope} {e : List Stmt} {m : List MS}, SitS T N tx W k X sc → trB T N mu n sc e = some m → PSs X e (RdS W (evB tx m))
section
variable {T : Tab} {N mu : List Str} {tx : Tx} {W : Wd} {k n : Nat} {X : Cx} {sc : Scope}
theorem PSs.imp {X : Cx} {e : List Stmt} {t t' : TS} (h : PSs X e t) (i : ∀ D σ H, t' D σ H → t D σ H) : PSs X e t' := ⟨fun pins s σ H D I q => h.run pins s σ H D I (i D σ H q)⟩
theorem ps_fails {e : Stmt} : PS X e (RdS W (evS tx (.rais 0 []))) := ⟨fun pins s σ H D I h => by
  obtain ⟨L, ρ, S, _, _, _, h⟩ := h
  rw [evS] at h
  have : bnd (evL tx [] ρ) (fun _ => (fail : M (Fl × Pk.Env))) S = .err := by rw [evL]; rfl
  rw [this] at h
  exact h.elim⟩
/-- a comprehension under a name -/
theorem setLc_ok {scope : Scope} {elt tg it : Expr} {ifs : List Expr} {m : ME} {pos spos py : Pos} {i : Nat} {y : Str} {c : Bool} (s : Sit T N tx W k X sc) (hkd : X.env.scope.kind = .function) (hb : L2.blkC N sc scope (ownOf N scope) = true) (h : trComp T N n sc scope elt tg it ifs = some m)
    (hi : N[i]? = some y) (hyl : sc.names.lookup y = some .local) (hl : (py.line == pos.line) = true) (ha : (scope.names.any fun (n, k) => n == y && (k == .local || k == .cell)) = false) :
    PS X (.Assign [.Name y py] (.ListComp elt [⟨tg, it, ifs, 0⟩] scope pos) spos) (RdS W (evS tx (.asg i c m))) := by
  cases n with
  | zero => unfold trComp at h; cases h
  | succ n =>
  have I : Snd T N tx W k n := snd_all n
  have hyl' : X.env.scope.names.lookup y = some .local := by rw [s.hsc]; exact hyl
  unfold trComp at h
  split at h
  · rename_i tg' it' elt' e1 e2 e3
    split at h
    · rename_i ho
      obtain ⟨hs, hi'⟩ := own_slots ho
      have ok : BlkOk X.N X.env.scope scope (ownOf N scope) := by
        rw [s.hN, s.hsc]
        exact blkOk_by hb
      have core : ∀ {c' : ME} (hc : ∀ (s0 : Shared) (H : Hp) (C : Addr) (cl : List (Str × Addr)) (fp : List Addr), PTs (X.blk s0 H scope (compEnvC scope cl C X.env) fp) ifs (RdT W WF fun ρ => testOf (evE tx c' ρ))), nice it = true →
          PS X (.Assign [.Name y py] (.ListComp elt [⟨tg, it, ifs, 0⟩] scope pos) spos) (RdS W (evS tx (.asg i c (.comp elt' tg' ((ownOf N scope).map (·.2)) it' c')))) := by
        intro c' hc hnit
        refine PS.imp (ps_setLc s.calm (by rw [s.hN]; exact s.nd) (by rw [s.hN]; exact hi) hyl' (sw_true hkd hyl' hl ha) (I.I s e2 hi') ok (fun s0 H C cl fp => pg_of (X := X.blk s0 H scope (compEnvC scope cl C X.env) fp) s.hN s.nd s.calm s.ownB s.hW n e1) hc (fun s0 H C cl fp => I.E s.blk e3) (folded_nice hnit _)) fun D σ H q => ?_
        have q' : RdE W WF (evE tx (.comp elt' tg' ((ownOf N scope).map (·.2)) it' c')) σ H (fun x H1 => gName i x σ H1 D.nx) := asg_ok q
        exact lc_ok (X := X) hs q'
      have hn := nice_iter e2
      split at h
      · cases h
        exact core (fun s0 H C cl fp => PTs.imp pts_nil fun σ H Q q => rdt_yes q) hn
      · split at h
        · rename_i t ht
          obtain ⟨b, e4, e5⟩ := Option.map_eq_some_iff.mp h
          subst e5
          exact core (fun s0 H C cl fp => pts_one (I.Te s.blk ht e4)) hn
        · cases h
      · cases h
    · cases h
  · cases h
theorem comp_tr {elt : Expr} {gs : List Comprehension} {scope : Scope} {pos : Pos} {m : ME} (h : trE T N n sc (.ListComp elt gs scope pos) = some m) : ∃ tg it ifs n', gs = [⟨tg, it, ifs, 0⟩] ∧ L2.blkC N sc scope (ownOf N scope) = true ∧ trComp T N n' sc scope elt tg it ifs = some m := by
  cases n with
  | zero => unfold trE at h; cases h
  | succ n =>
    match gs, h with
    | [⟨tg, it, ifs, Int.ofNat 0⟩], h =>
      unfold trE at h
      obtain ⟨hb, h⟩ := ite_some' h
      exact ⟨tg, it, ifs, n, rfl, hb, h⟩
    | [⟨a1, a2, a3, Int.ofNat (a4 + 1)⟩], h => unfold trE at h; cases h
    | [⟨a1, a2, a3, Int.negSucc a4⟩], h => unfold trE at h; cases h
    | [], h => unfold trE at h; cases h
    | ⟨a1, a2, a3, Int.ofNat 0⟩ :: g2 :: gr, h => unfold trE at h; cases h
    | ⟨a1, a2, a3, Int.ofNat (a4 + 1)⟩ :: g2 :: gr, h => unfold trE at h; cases h
    | ⟨a1, a2, a3, Int.negSucc a4⟩ :: g2 :: gr, h => unfold trE at h; cases h
theorem assign_sub {o i : Expr} {pos : Pos} {env : PySem.Env} (h : nice i = true) (v : Value) : assign (.Subscript o i pos) env v = (do
      let ov ← holding [v] (eval o env)
      let iv ← holding [v, ov] (eval i env)
      standAt pos
      holding [v, ov, iv] (setItem ov iv v)
      release [v, ov, iv] []) := by
  cases i <;> first | rfl | (cases h; done)
theorem sndS_A (I : SndS T N mu tx W k n) {t e : Expr} {m : MS} {pos : Pos} (ss : SitS T N tx W k X sc) (h : trA T N mu (n + 1) sc t e = some m) : PS X (.Assign [t] e pos) (RdS W (evS tx m)) := by
  have s := ss.s
  have E : Snd T N tx W k n := snd_all n
  have hu := s.un
  simp only [trA] at h
  split at h
  · rename_i x px
    obtain ⟨hc, h⟩ := ite_some' h
    split at h
    · rename_i i em e1 e2
      cases h
      obtain ⟨hk, hi⟩ := ownSlot_of e1
      obtain ⟨hl, hf⟩ := ss.own.own x hk
      by_cases hcomp : isComp e = true
      · cases e <;> first | (cases hcomp; done) | skip
        rename_i elt gs scope pc
        obtain ⟨tg, it, ifs, n', rfl, hb, ht⟩ := comp_tr e2
        unfold compSet at hc
        simp only [Bool.and_eq_true, Bool.not_eq_true'] at hc
        exact setLc_ok s ss.kind hb ht hi (eq_of_beq hc.1.1) hc.1.2 hc.2
      · have hcomp : isComp e = false := by simpa using hcomp
        refine PS.imp (ps_set (by rw [s.hN]; exact s.nd) (by rw [s.hN]; exact hi) hl (E.E s e2) (sw_no (nice_of e2) hcomp) hf) fun D σ H q => asg_ok q
    · cases h
  · rename_i ts kt pt
    split at h
    · rename_i es ke pe
      obtain ⟨hsw, h⟩ := ite_some' h
      split at h
      · rename_i is ms e1 e2
        obtain ⟨⟨hl1, hl2⟩, h⟩ := ite_some h
        subst h
        obtain ⟨h1, h2, h3⟩ := E.L s e2
        rcases Bool.or_eq_true_iff.mp hsw with hsw | hsw
        · unfold swapped at hsw
          have look : ∀ {x : Str}, (sc.names.lookup x == some .local) = true → X.env.scope.names.lookup x = some .local := fun q => by rw [s.hsc]; exact eq_of_beq q
          split at hsw
          · rename_i x px y py a b _
            simp only [Bool.and_eq_true, Bool.not_eq_true'] at hsw
            obtain ⟨⟨⟨⟨⟨hx, hy⟩, hl⟩, hne⟩, c1⟩, c2⟩ := hsw
            obtain ⟨i, is', e3, e4, e5⟩ := seqO_cons e1
            obtain ⟨j, is'', e6, e7, e8⟩ := seqO_cons e4
            cases e7
            subst e8 e5
            obtain ⟨i', e9, e10⟩ := Option.map_eq_some_iff.mp e3
            obtain ⟨j', e11, e12⟩ := Option.map_eq_some_iff.mp e6
            subst e10 e12
            have hi := (ownSlot_of e9).2
            have hj := (ownSlot_of e11).2
            have hxy : x ≠ y := by simpa using hne
            have hij : i' ≠ j' := fun z => by
              subst z
              rw [hi] at hj
              cases hj
              exact hxy rfl
            refine PS.imp (ps_par s.calm (by rw [s.hN]; exact s.nd) (by rw [s.hN]; exact hi) (by rw [s.hN]; exact hj) hij (look hx) (look hy) h1 (swp_yes2 ss.kind (look hx) (look hy) hl hxy h2 c1 c2) sws_tuple) fun D σ H q => par2_ok q
          · rename_i x px y py z pz a b c _
            simp only [Bool.and_eq_true, Bool.not_eq_true'] at hsw
            obtain ⟨⟨⟨⟨⟨⟨⟨⟨⟨hx, hy⟩, hz⟩, hl⟩, hlz⟩, hne⟩, hnz⟩, hyz⟩, c1⟩, c2⟩ := hsw
            obtain ⟨i, is', e3, e4, e5⟩ := seqO_cons e1
            obtain ⟨j, is'', e6, e7, e8⟩ := seqO_cons e4
            obtain ⟨l, is3, f6, f7, f8⟩ := seqO_cons e7
            cases f7
            subst f8 e8 e5
            obtain ⟨i', e9, e10⟩ := Option.map_eq_some_iff.mp e3
            obtain ⟨j', e11, e12⟩ := Option.map_eq_some_iff.mp e6
            obtain ⟨l', f11, f12⟩ := Option.map_eq_some_iff.mp f6
            subst e10 e12 f12
            have hi := (ownSlot_of e9).2
            have hj := (ownSlot_of e11).2
            have hm := (ownSlot_of f11).2
            have hxy : x ≠ y := by simpa using hne
            have hxz : x ≠ z := by simpa using hnz
            have hyz : y ≠ z := by simpa using hyz
            have nn : ∀ {a b : Nat} {u v : Str}, N[a]? = some u → N[b]? = some v → u ≠ v → a ≠ b := fun q1 q2 q3 z => by
              subst z
              rw [q1] at q2
              cases q2
              exact q3 rfl
            refine PS.imp (ps_par3 s.calm (by rw [s.hN]; exact s.nd) (by rw [s.hN]; exact hi) (by rw [s.hN]; exact hj) (by rw [s.hN]; exact hm) (nn hi hj hxy) (nn hi hm hxz) (nn hj hm hyz) (look hx) (look hy) (look hz) h1 (swp_yes3 ss.kind (look hx) (look hy) (look hz) hl hlz hxy hxz hyz h2 c1 c2) sws_tuple) fun D σ H q => par3_ok q
          · cases hsw
        · obtain ⟨g1, g2, g3⟩ := pgs_names s.hN s.nd ss.own e1
          refine PS.imp (ps_asg (pe_tup h1) (pg_tup (n := is.length) s.calm g1 g2 g3) sws_tuple (swp_none ss.kind s.hsc hsw)) fun D σ H q => parT_ok (by unfold line; omega) q
      · cases h
    · rename_i hnt
      split at h
      · rename_i ts' em e1 e2
        cases h
        have hnt' : isTup e = false := by
          cases e <;> first | rfl | (exact (hnt _ _ _ rfl).elim)
        have hn := nice_of e2
        refine PS.imp (ps_asg (E.E s e2) (pg_of s.hN s.nd s.calm ss.own s.hW n e1) sws_tuple (swp_no hnt' hn)) fun D σ H q => asgT_ok q
      · cases h
  · split at h
    · cases h
    · split at h
      · rename_i e1 e2 e3
        cases h
        have hn := nice_of e2
        exact PS.imp (ps_asg (E.E s e3) (pg_sub (E.E s e1) (E.E s e2) (set_put (by omega)) (assign_sub hn)) sws_sub swp_sub) fun D σ H q => subA_ok q
      · cases h
  · split at h
    · cases h
    · split at h
      · rename_i e1 e2 e3
        cases h
        obtain ⟨ha, hC⟩ := s.g.att _ _ e2
        exact PS.imp (ps_fld (E.E s e1) (E.E s e3) sw_fld) fun D σ H q => attrA_ok ha hC q
      · cases h
  · cases h
theorem sndS_B (I : SndS T N mu tx W k n) {e : List Stmt} {m : List MS} (ss : SitS T N tx W k X sc) (h : trB T N mu (n + 1) sc e = some m) : PSs X e (RdS W (evB tx m)) := by
  cases e with
  | nil =>
    simp only [trB] at h
    cases h
    exact PSs.imp pss_nil fun D σ H q => nil_ok q
  | cons s0 e =>
    simp only [trB] at h
    split at h
    · rename_i e1 e2
      cases h
      exact PSs.imp (pss_cons (I.S ss e1) (I.B ss e2)) fun D σ H q => seq_ok q
    · cases h
theorem sndS_S1 (I : SndS T N mu tx W k n) {e : Stmt} {m : MS} (ss : SitS T N tx W k X sc) (h : trS1 T N mu (n + 1) sc e = some m) : PS X e (RdS W (evS tx m)) := by
  have s := ss.s
  have E : Snd T N tx W k n := snd_all n
  have hu := s.un
  simp only [trS1] at h
  split at h
  · exact I.A ss h
  · split at h
    · rename_i e1 e2
      cases h
      obtain ⟨hk, hi⟩ := ownSlot_of e1
      obtain ⟨hl, hf⟩ := ss.own.own _ hk
      exact PS.imp (ps_aug (by rw [s.hN]; exact s.nd) (by rw [s.hN]; exact hi) hl (E.E s e2) (ip_aug _) hf) fun D σ H q => aug_ok q
    · cases h
  · split at h
    · rename_i e1 e2 e3
      split at h
      · rename_i hz
        cases hz
      · cases h
    · cases h
  · split at h
    · cases h
    · rename_i hc
      obtain ⟨b, e1, e2⟩ := Option.map_eq_some_iff.mp h
      subst e2
      exact PS.imp (ps_expr (E.E s e1) (sw_no (nice_of e1) (by simpa using hc))) fun D σ H q => ex_ok q
  · cases h
    exact PS.imp ps_retN fun D σ H q => retN_ok q
  · obtain ⟨b, e1, e2⟩ := Option.map_eq_some_iff.mp h
    subst e2
    exact PS.imp (ps_ret (E.E s e1)) fun D σ H q => ret_ok q
  · obtain ⟨ht, h⟩ := ite_some' h
    split at h
    · rename_i e1 e2 e3
      cases h
      exact PS.imp (ps_if (E.Te s ht e1) (I.B ss e2) (I.B ss e3)) fun D σ H q => ifs_ok q
    · cases h
  · split at h
    · rename_i e1 e2 e3
      obtain ⟨hi, h⟩ := ite_some h
      subst h
      exact PS.imp (ps_for ss.pass s.calm (E.I s e2 hi) (pg_of s.hN s.nd s.calm ss.own s.hW n e1) (I.B ss e3) (folded_nice (nice_iter e2) _)) fun D σ H q => for_ok q
    · cases h
  · obtain ⟨ht, h⟩ := ite_some' h
    split at h
    · rename_i e1 e2
      cases h
      exact PS.imp (ps_while ss.pass (E.Te s ht e1) (I.B ss e2)) fun D σ H q => while_ok q
    · cases h
  · cases h
    exact PS.imp ps_pass fun D σ H q => pass_ok q
  · cases h
    exact PS.imp ps_break fun D σ H q => brk_ok q
  · cases h
    exact PS.imp ps_continue fun D σ H q => cont_ok q
  · cases h
theorem sndS_S (I : SndS T N mu tx W k n) {e : Stmt} {m : MS} (ss : SitS T N tx W k X sc) (h : trS T N mu (n + 1) sc e = some m) : PS X e (RdS W (evS tx m)) := by
  simp only [trS] at h
  cases h
  cases e1 : trS1 T N mu n sc e with
  | none => exact ps_fails
  | some m => exact I.S1 ss e1
theorem sndS_all : ∀ n, SndS T N mu tx W k n
  | 0 => by
    refine ⟨?_, ?_, ?_, ?_⟩
    · intro X sc e m s h; simp only [trS] at h; cases h
    · intro X sc e m s h; simp only [trS1] at h; cases h
    · intro X sc t e m pos s h; simp only [trA] at h; cases h
    · intro X sc e m s h; simp only [trB] at h; cases h
  | n + 1 => by
    have I : SndS T N mu tx W k n := sndS_all n
    exact ⟨fun s h => sndS_S I s h, fun s h => sndS_S1 I s h, fun s h => sndS_A I s h, fun s h => sndS_B I s h⟩
end
end Pk
end
section
set_option Elab.async false
set_option linter.all false
set_option maxRecDepth 100000
set_option maxHeartbeats 2000000
/-! A text: its defs, its classes; what the top must have written; each def's promise, level by level. -/
namespace Pk
open PySem L2 PyProof.Rows

structure DefI where
  id : FId
  at_ : Str × Option Str
  name : Str
  qual : Str
  st : Stmt
  N : List Str
  ps : List Str
  own : List Str × List D
  mu : List Str
  par : List Bool
  kws : List KwP
def dvOf : D → He.Dv
  | .bl b => .bl b
  | .int i => .int i
  | .str s => .str s
  | _ => .non
def DefI.dd (d : DefI) : He.DefD := ⟨d.at_, d.name, d.qual, defArgs d.st, defBody d.st, defScope d.st, d.own.2.map dvOf, []⟩
def dunder (m : Str) : Bool := m.cps[0]? == some 95 && m.cps[1]? == some 95
structure TextI where
  cls : List Str
  atts : List Str
  fmut : List Str
  chg : List Nat
  defs : List DefI
  consts : List (Str × D)
def TextI.tab (I : TextI) : Tab where
  cls := I.cls
  atts := I.atts
  funs := I.defs.filterMap fun d => match d.id with
    | .fn f => some (f, d.own)
    | _ => none
  inits := I.defs.filterMap fun d => match d.id with
    | .init _ => some (d.at_.1, d.own)
    | _ => none
  meths := I.defs.filterMap fun d => match d.id with
    | .me _ m => if dunder m = true then none else some (m, d.own)
    | _ => none
  muts := []
  duns := (["__len__", "__repr__", "__str__"] : List Str).filter fun m => !I.atts.contains m && I.defs.all fun d => match d.id with
    | .me _ m' => !decide (m' = m) || (d.own.1.isEmpty && d.own.2.isEmpty)
    | _ => true
  fmut := I.fmut
  kfn := I.defs.flatMap fun d => match d.id with
    | .fn f => d.kws.map fun q => (f, (q, d.own.2))
    | _ => []
  kin := I.defs.flatMap fun d => match d.id with
    | .init _ => d.kws.map fun q => (d.at_.1, (q, d.own.2))
    | _ => []
def DefI.first (d : DefI) : Nat := match d.id with
  | .fn _ => 0
  | _ => 1
def fuel : Nat := 100
def TextI.body (I : TextI) (d : DefI) : List MS := (trB I.tab d.N d.mu fuel (defScope d.st) (defBody d.st)).getD []
def TextI.df (I : TextI) (d : DefI) : Def := ⟨d.par, d.N.length, I.body d⟩
def TextI.txt (I : TextI) : Txt := ⟨fun x => I.consts.lookup x, fun id => (I.defs.find? fun d => decide (d.id = id)).map I.df, fun c => I.chg.contains c⟩
/-- a def's form, what its parameters are -/
structure DefOk (I : TextI) (d : DefI) : Prop where
  sc : FnScope d.N d.ps (defScope d.st)
  par : d.par.length = d.ps.length
  tr : (trB I.tab d.N d.mu fuel (defScope d.st) (defBody d.st)).isSome = true
  bnd : ∀ (K : PySem.W.Frag) (f : Addr) (fd : FuncData), FunD K d.name d.qual (defArgs d.st) (defBody d.st) (defScope d.st) (d.dd.dvs K) [] f fd → ∀ j ds', fills d.own.1 d.own.2 j = some ds' → ∃ dvs us, CstL ds' dvs ∧ Vals dvs us ∧ Binds K fd d.ps us
  kbn : ∀ (K : PySem.W.Frag) (f : Addr) (fd : FuncData), FunD K d.name d.qual (defArgs d.st) (defBody d.st) (defScope d.st) (d.dd.dvs K) [] f fd → ∀ q ∈ d.kws, KwB K fd d.ps d.first d.own.2 q
def atOk (I : TextI) (d : DefI) : Bool := match d.id with
  | .fn f => decide (d.at_ = (f, none))
  | .me c m => (match I.cls[c]? with
    | some x => decide (d.at_ = (x, some m))
    | none => false)
  | .init c => (match I.cls[c]? with
    | some x => decide (d.at_ = (x, some ("__init__" : Str)))
    | none => false)
def pairOk (I : TextI) (d e : DefI) : Bool := match d.id, e.id with
  | .me _ m, .me _ m' => decide (m = m') → decide (d.own.1 = e.own.1)
  | _, _ => true
def constOk (K : PySem.W.Frag) (p : Str × D) : Bool := match p.2 with
  | .int i => (He.Fa.int p.1 i).ok K
  | .str s => (He.Fa.str p.1 s).ok K
  | _ => false
def tyNs : List String := ["NoneType", "bool", "int", "str", "tuple", "list", "dict"]
def isfOk (I : TextI) (K : PySem.W.Frag) : Bool := I.cls.all (fun x => decide (PySem.W.findIn K (.ref (He.ga K x)) "__class__" = some (some (.builtin "object.__class__"))) && decide (PySem.W.mroIn K (He.ga K x) (.type "object") = some true) &&
    tyNs.all (fun n => decide (PySem.W.kitOne K (.type n) (.ref (He.ga K x)) = some false)) && tyNs.all (fun n => decide (PySem.W.kitOne K (.ref (He.ga K x)) (.type n) = some false))) &&
  (List.range I.cls.length).all (fun i => (List.range I.cls.length).all fun j => decide (PySem.W.kitOne K (.ref (He.ga K (I.cls.getD i Str.empty))) (.ref (He.ga K (I.cls.getD j Str.empty))) = some (i == j))) &&
  decide (PySem.W.specialIn K (.builtin "object.__class__") "__get__" = some (some (.builtin "getset_descriptor.__get__"))) && decide (PySem.W.takesIn K (.builtin "object.__class__") = some true)
/-- what a class with an own == must have besides -/
def eqfOk (I : TextI) (K : PySem.W.Frag) : Bool := I.cls.all fun x => decide (PySem.W.findIn K (.ref (He.ga K x)) "__ne__" = some (some (.builtin "object.__ne__"))) && decide (PySem.W.mroIn K (He.ga K x) (.type "NoneType") = some false)
def defFact (K : PySem.W.Frag) (d : DefI) : Bool := match d.id with
  | .fn f => (He.Fa.glo f).ok K
  | .me _ m => (He.Fa.meth d.at_.1 m).ok K
  | .init _ => (He.Fa.mkr d.at_.1).ok K
def exB (I : TextI) (K : PySem.W.Frag) : Bool := I.cls.all (fun x => (He.Fa.cls x).ok K && (He.Fa.glo x).ok K && I.atts.all (fun f => (He.Fa.noat x f).ok K)) && (isfOk I K && eqfOk I K) && I.consts.all (constOk K) && btNames.all (fun x => (He.Fa.free x).ok K) && I.defs.all (defFact K)
/-- what is plain of a text -/
structure TextOk (I : TextI) : Prop where
  defs : ∀ d ∈ I.defs, DefOk I d
  at_ : I.defs.all (atOk I) = true
  ids : (I.defs.map (·.id)).Nodup
  cls : I.cls.Nodup
  atts : I.atts.Nodup
  natt : (I.tab.meths.all fun p => !I.atts.contains p.1) = true
  mnd : (I.tab.meths.map (·.1)).Nodup
  eqs : (I.defs.all fun d => match d.id with
    | .me _ m => !decide (m = ("__eq__" : Str)) || (d.own.1.length == 1 && d.own.2.isEmpty)
    | _ => true) = true
section
variable {I : TextI} {K : PySem.W.Frag} {P : Program} {w : World} {mg : Str → Option Value} {base : Heap}
theorem tab_funs {f : Str} {own : List Str × List D} (h : I.tab.funs.lookup f = some own) : ∃ d ∈ I.defs, d.id = .fn f ∧ d.own = own := by
  have hm : (f, own) ∈ I.tab.funs := mem_of_lookup h
  obtain ⟨d, hd, e⟩ := List.mem_filterMap.mp hm
  refine ⟨d, hd, ?_⟩
  cases hid : d.id with
  | fn g => rw [hid] at e; cases e; exact ⟨rfl, rfl⟩
  | me _ _ => rw [hid] at e; cases e
  | init _ => rw [hid] at e; cases e
theorem tab_inits {x : Str} {own : List Str × List D} (h : I.tab.inits.lookup x = some own) : ∃ d ∈ I.defs, ∃ c, d.id = .init c ∧ d.at_.1 = x ∧ d.own = own := by
  have hm : (x, own) ∈ I.tab.inits := mem_of_lookup h
  obtain ⟨d, hd, e⟩ := List.mem_filterMap.mp hm
  refine ⟨d, hd, ?_⟩
  cases hid : d.id with
  | fn g => rw [hid] at e; cases e
  | me _ _ => rw [hid] at e; cases e
  | init c => rw [hid] at e; cases e; exact ⟨c, rfl, rfl, rfl⟩
theorem tab_kfn {f : Str} {q : KwP} {ds : List D} (h : (f, (q, ds)) ∈ I.tab.kfn) : ∃ d ∈ I.defs, d.id = .fn f ∧ q ∈ d.kws ∧ d.own.2 = ds := by
  obtain ⟨d, hd, e⟩ := List.mem_flatMap.mp h
  refine ⟨d, hd, ?_⟩
  cases hid : d.id with
  | fn g =>
    simp only [hid] at e
    obtain ⟨q', m, e⟩ := List.mem_map.mp e
    cases e
    exact ⟨rfl, m, rfl⟩
  | me _ _ => simp only [hid] at e; cases e
  | init _ => simp only [hid] at e; cases e
theorem tab_kin {x : Str} {q : KwP} {ds : List D} (h : (x, (q, ds)) ∈ I.tab.kin) : ∃ d ∈ I.defs, ∃ c, d.id = .init c ∧ d.at_.1 = x ∧ q ∈ d.kws ∧ d.own.2 = ds := by
  obtain ⟨d, hd, e⟩ := List.mem_flatMap.mp h
  refine ⟨d, hd, ?_⟩
  cases hid : d.id with
  | fn g => simp only [hid] at e; cases e
  | me _ _ => simp only [hid] at e; cases e
  | init c =>
    simp only [hid] at e
    obtain ⟨q', m, e⟩ := List.mem_map.mp e
    cases e
    exact ⟨c, rfl, rfl, m, rfl⟩
theorem find_def {id : FId} {d : DefI} (h : I.defs.find? (fun d => decide (d.id = id)) = some d) : d ∈ I.defs ∧ d.id = id := ⟨List.mem_of_find?_eq_some h, by simpa using List.find?_some h⟩
theorem same_id (ok : TextOk I) {d e : DefI} (hd : d ∈ I.defs) (he : e ∈ I.defs) (h : d.id = e.id) : d = e := by
  have := ok.ids
  obtain ⟨i, hi, ei⟩ := List.getElem_of_mem hd
  obtain ⟨j, hj, ej⟩ := List.getElem_of_mem he
  have hij : i = j := by
    have h1 : (I.defs.map (·.id))[i]'(by simpa using hi) = (I.defs.map (·.id))[j]'(by simpa using hj) := by simp [ei, ej, h]
    exact (List.getElem_inj this).mp h1
  subst hij
  rw [← ei, ← ej]
/-- the world of a text -/
def TextI.wd (I : TextI) (ok : I.atts.Nodup) (K : PySem.W.Frag) : Wd where
  K := K
  cls := fun c => (I.cls[c]?).map (He.ga K)
  att := fun i => I.atts[i]?
  inj := fun i j x h1 h2 => by
    obtain ⟨hi, ei⟩ := List.getElem?_eq_some_iff.mp h1
    obtain ⟨hj, ej⟩ := List.getElem?_eq_some_iff.mp h2
    exact (List.getElem_inj ok).mp (ei.trans ej.symm)
/-- what the top has written -/
structure TopOk (I : TextI) (K : PySem.W.Frag) : Prop where
  ex : exB I K = true
  defs : ∀ d ∈ I.defs, ∃ fd, FunD K d.name d.qual (defArgs d.st) (defBody d.st) (defScope d.st) (d.dd.dvs K) [] (He.fAd K d.at_) fd
theorem b5 {a b c d e : Bool} (h : (a && b && c && d && e) = true) : a = true ∧ b = true ∧ c = true ∧ d = true ∧ e = true := by
  simp only [Bool.and_eq_true] at h
  exact ⟨h.1.1.1.1, h.1.1.1.2, h.1.1.2, h.1.2, h.2⟩
theorem TopOk.cls (t : TopOk I K) {x : Str} (hx : x ∈ I.cls) : (He.Fa.cls x).ok K = true ∧ (He.Fa.glo x).ok K = true ∧ ∀ f ∈ I.atts, (He.Fa.noat x f).ok K = true := by
  obtain ⟨h, _⟩ := b5 t.ex
  have := List.all_eq_true.mp h x hx
  simp only [Bool.and_eq_true] at this
  exact ⟨this.1.1, this.1.2, fun f hf => List.all_eq_true.mp this.2 f hf⟩
theorem TopOk.isf (t : TopOk I K) (ok : I.atts.Nodup) : IsF (I.wd ok K) K := by
  obtain ⟨_, h, _⟩ := b5 t.ex
  have h := (Bool.and_eq_true_iff.mp h).1
  unfold isfOk at h
  simp only [Bool.and_eq_true, List.all_eq_true, decide_eq_true_eq, List.mem_range] at h
  obtain ⟨⟨⟨h1, h2⟩, h3⟩, h4⟩ := h
  have get : ∀ {c C}, (I.wd ok K).cls c = some C → ∃ x, I.cls[c]? = some x ∧ x ∈ I.cls ∧ C = He.ga K x := fun {c C} e => by
    obtain ⟨x, e1, e2⟩ := Option.map_eq_some_iff.mp e
    exact ⟨x, e1, List.mem_of_getElem? e1, e2.symm⟩
  refine ⟨fun c C e => ?_, h3, h4, fun c C e n hn => ?_, fun c C e n hn => ?_, fun c C c' C' e e' => ?_⟩
  · obtain ⟨x, _, hx, rfl⟩ := get e
    obtain ⟨⟨⟨k1, k2⟩, _⟩, _⟩ := h1 x hx
    exact ⟨He.cls_ok (t.cls hx).1, k1, k2⟩
  · obtain ⟨x, _, hx, rfl⟩ := get e
    obtain ⟨⟨_, k3⟩, _⟩ := h1 x hx
    exact k3 n hn
  · obtain ⟨x, _, hx, rfl⟩ := get e
    obtain ⟨_, k4⟩ := h1 x hx
    exact k4 n (by simp [tyNs] at hn ⊢; rcases hn with h | h | h | h | h | h <;> simp [h])
  · obtain ⟨x, e1, _, rfl⟩ := get e
    obtain ⟨y, e2, _, rfl⟩ := get e'
    have hc := (List.getElem?_eq_some_iff.mp e1).1
    have hc' := (List.getElem?_eq_some_iff.mp e2).1
    have := h2 c hc c' hc'
    rw [List.getD_eq_getElem?_getD, List.getD_eq_getElem?_getD, e1, e2] at this
    exact this
theorem TopOk.eqf (t : TopOk I K) (ok : I.atts.Nodup) : EqF (I.wd ok K) K := by
  obtain ⟨_, h, _⟩ := b5 t.ex
  have h := (Bool.and_eq_true_iff.mp h).2
  have at_ : ∀ c C, (I.wd ok K).cls c = some C → PySem.W.findIn K (.ref C) "__ne__" = some (some (.builtin "object.__ne__")) ∧ PySem.W.mroIn K C (.type "NoneType") = some false := fun c C e => by
    obtain ⟨x, e1, e2⟩ := Option.map_eq_some_iff.mp e
    subst e2
    have := List.all_eq_true.mp h x (List.mem_of_getElem? e1)
    simp only [Bool.and_eq_true, decide_eq_true_eq] at this
    exact this
  exact ⟨fun c C e => (at_ c C e).1, fun c C e => (at_ c C e).2⟩
/-! ### what stands at each level -/
theorem fact_of (t : TopOk I K) {d : DefI} (hd : d ∈ I.defs) : defFact K d = true := by
  obtain ⟨_, _, _, _, h⟩ := b5 t.ex
  exact List.all_eq_true.mp h d hd
theorem at_of' (ok : TextOk I) {d : DefI} (hd : d ∈ I.defs) : atOk I d = true := List.all_eq_true.mp ok.at_ d hd
theorem has_of {n : Nat} {id : FId} (h : (I.txt.at (n + 1)).has id = true) : ∃ d ∈ I.defs, d.id = id ∧ (I.txt.at (n + 1)).call id = callDef (I.txt.at n) (I.df d) := by
  have h : (I.txt.defs id).isSome = true := h
  have e : (I.txt.defs id) = (I.defs.find? fun d => decide (d.id = id)).map I.df := rfl
  cases q : I.defs.find? (fun d => decide (d.id = id)) with
  | none => rw [e, q] at h; cases h
  | some d =>
    obtain ⟨hm, hid⟩ := find_def q
    refine ⟨d, hm, hid, ?_⟩
    funext as
    show (match I.txt.defs id with
      | some df => callDef (I.txt.at n) df as
      | none => fail) = _
    rw [e, q]
    rfl
/-- a def's promise, one level up -/
theorem fn_level (ok : TextOk I) (t : TopOk I K) {n : Nat} (G : GF I.tab (I.txt.at n) (I.wd ok.atts K) (2 * n) P w K mg base) {d : DefI} (hd : d ∈ I.defs) : ∃ fd, FunD K d.name d.qual (defArgs d.st) (defBody d.st) (defScope d.st) (d.dd.dvs K) [] (He.fAd K d.at_) fd ∧
    FnP P w K mg base (2 * (n + 1)) (He.fAd K d.at_) fd d.ps (SpOf (I.wd ok.atts K) (callDef (I.txt.at n) (I.df d))) := by
  obtain ⟨fd, F⟩ := t.defs d hd
  refine ⟨fd, F, ?_⟩
  have D := ok.defs d hd
  obtain ⟨oc, od, dV, kV, doc, pm, an, cdv, ct, osl, rfl, lk, hcd, _, _⟩ := F.ex
  have hb : trB I.tab d.N d.mu fuel (defScope d.st) (defBody d.st) = some (I.body d) := by
    unfold TextI.body
    cases q : trB I.tab d.N d.mu fuel (defScope d.st) (defBody d.st) with
    | none => have := D.tr; rw [q] at this; cases this
    | some b => rfl
  have hpl : (I.df d).params.length ≤ d.N.length := by
    show d.par.length ≤ _
    rw [D.par]
    have := congrArg List.length D.sc.pre
    rw [List.length_take] at this
    omega
  refine fnP_of lk hcd D.sc (fun vs H Q E h => (SpOf.len h).trans D.par) fun A outer s H vs Q E hr hg hsp => ⟨_, (sndS_all fuel).B (T := I.tab) (tx := I.txt.at n) (W := I.wd ok.atts K) (k := 2 * n) ⟨⟨rfl, rfl, D.sc.nd, rfl, hg, hr, rfl, G⟩, PassesOwn.leaving, ⟨fun x h => ⟨h, .inl rfl⟩⟩, D.sc.kind⟩ hb, RdS.body rfl hpl hsp⟩
theorem gf_mk (ok : TextOk I) (t : TopOk I K) (X : K.In base) (M : base.Ns mainGlobals mg) {tx : Tx} {k : Nat} (hg : ∀ x, tx.glob x = I.consts.lookup x)
    (hc : ∀ id, tx.has id = true → ∃ d ∈ I.defs, d.id = id ∧ ∃ fd, FunD K d.name d.qual (defArgs d.st) (defBody d.st) (defScope d.st) (d.dd.dvs K) [] (He.fAd K d.at_) fd ∧ FnP P w K mg base k (He.fAd K d.at_) fd d.ps (SpOf (I.wd ok.atts K) (tx.call id))) :
    GF I.tab tx (I.wd ok.atts K) k P w K mg base := by
  have clsAt : ∀ {x c}, placeOf I.tab.cls x = some c → I.cls[c]? = some x ∧ x ∈ I.cls := fun {x c} e => by
    have := place_get e
    exact ⟨this, List.mem_of_getElem? this⟩
  have wcls : ∀ {c C}, (I.wd ok.atts K).cls c = some C → ∃ x, I.cls[c]? = some x ∧ x ∈ I.cls ∧ C = He.ga K x := fun {c C} e => by
    obtain ⟨x, e1, e2⟩ := Option.map_eq_some_iff.mp e
    exact ⟨x, e1, List.mem_of_getElem? e1, e2.symm⟩
  obtain ⟨_, _, hcon, hbt, _⟩ := b5 t.ex
  refine ⟨fun x d e => ?_, fun x hx => ?_, fun f ps ds e hh => ?_, fun x c ps ds ec e hh => ?_, fun m ps ds e => ⟨fun i q => ?_, fun c C hC hh => ?_⟩, fun m hm => ⟨fun i q => ?_, fun c C hC hh => ?_⟩, fun f i e => ⟨?_, fun c C hC => ?_⟩, t.isf ok.atts, t.eqf ok.atts, fun c C hC hh => ?_, fun x c e => ?_, fun f q ds e hh => ?_, fun x c q ds ec e hh => ?_⟩
  · rw [hg] at e
    have hm := mem_of_lookup e
    have := List.all_eq_true.mp hcon _ hm
    cases d <;> first | (cases this; done) | skip
    · obtain ⟨tk, e2⟩ := He.int_ok X M (show (He.Fa.int x _).ok K = true from this)
      exact ⟨.int _, _, e2, ⟨tk, rfl⟩, fun _ _ => .int _⟩
    · obtain ⟨tk, e2⟩ := He.str_ok X M (show (He.Fa.str x _).ok K = true from this)
      exact ⟨.str _, _, e2, ⟨tk, rfl⟩, fun _ _ => .str _⟩
  · exact He.free_ok X M (List.all_eq_true.mp hbt x hx)
  · obtain ⟨d, hd, hid, ho⟩ := tab_funs e
    obtain ⟨d', hd', hid', fd, F, FP⟩ := hc _ hh
    have := same_id ok hd hd' (hid.trans hid'.symm)
    subst this
    have ha := at_of' ok hd
    have hf := fact_of t hd
    unfold atOk at ha
    unfold defFact at hf
    rw [hid] at ha hf
    have ha := of_decide_eq_true ha
    rw [ha] at F FP
    refine ⟨He.ga K f, fd, d.ps, He.glo_ok X M hf, F.kp, FP, fun j ds' hfl => ?_⟩
    exact (ok.defs d hd).bnd K _ fd F j ds' (by rw [ho]; exact hfl)
  · obtain ⟨d, hd, c', hid, hat, ho⟩ := tab_inits e
    obtain ⟨e1, hx⟩ := clsAt ec
    have ha := at_of' ok hd
    unfold atOk at ha
    rw [hid] at ha
    cases q : I.cls[c']? with
    | none => simp only [q] at ha; cases ha
    | some y =>
      simp only [q] at ha
      have ha := of_decide_eq_true ha
      have hy : y = x := by rw [ha] at hat; exact hat
      subst hy
      have hcc : c' = c := by
        obtain ⟨h1, z1⟩ := List.getElem?_eq_some_iff.mp q
        obtain ⟨h2, z2⟩ := List.getElem?_eq_some_iff.mp e1
        exact (List.getElem_inj ok.cls).mp (z1.trans z2.symm)
      subst hcc
      obtain ⟨d', hd', hid', fd, F, FP⟩ := hc _ hh
      have := same_id ok hd hd' (hid.trans hid'.symm)
      subst this
      have hf := fact_of t hd
      unfold defFact at hf
      rw [hid] at hf
      have hf : (He.Fa.mkr d.at_.1).ok K = true := hf
      rw [ha] at F FP hf
      have hM := He.mkr_ok hf
      refine ⟨He.ga K y, He.ma K (He.ga K y) "__init__", fd, d.ps, He.glo_ok X M (t.cls hx).2.1, ?_, hM.kp, hM, FP, fun j ds' hfl => ?_⟩
      · show (I.cls[c']?).map _ = _
        rw [e1]
        rfl
      · exact (ok.defs d hd).bnd K _ fd F j ds' (by rw [ho]; exact hfl)
  · have hm := mem_of_lookup e
    have := List.all_eq_true.mp ok.natt _ hm
    have hi : m ∈ I.atts := List.mem_of_getElem? q
    simp [hi] at this
  · obtain ⟨x, e1, hx, rfl⟩ := wcls hC
    refine ⟨He.cls_ok (t.cls hx).1, ?_⟩
    obtain ⟨d, hd, hid, fd, F, FP⟩ := hc _ hh
    have ha := at_of' ok hd
    have hf := fact_of t hd
    unfold atOk at ha
    unfold defFact at hf
    rw [hid] at ha hf
    simp only [e1] at ha
    have ha := of_decide_eq_true ha
    have hf : (He.Fa.meth d.at_.1 m).ok K = true := hf
    rw [ha] at F FP hf
    have hM := He.meth_ok hf
    have ho : d.own = (ps, ds) := by
      have hm := mem_of_lookup e
      have hm2 : (m, d.own) ∈ I.tab.meths := by
        refine List.mem_filterMap.mpr ⟨d, hd, ?_⟩
        rw [hid]
        have hdn : dunder m = false := by
          obtain ⟨d2, hd2, e2⟩ := List.mem_filterMap.mp hm
          cases q : d2.id with
          | fn g => rw [q] at e2; cases e2
          | init g => rw [q] at e2; cases e2
          | me c2 m2 =>
            rw [q] at e2
            cases z : dunder m2 with
            | true => simp only [z] at e2; cases e2
            | false =>
              simp only [z] at e2
              have e3 : (m2, d2.own) = (m, (ps, ds)) := Option.some.inj e2
              rw [← (Prod.mk.inj e3).1]
              exact z
        simp only [hdn]
        rfl
      obtain ⟨i, hi, ei⟩ := List.getElem_of_mem hm
      obtain ⟨j, hj, ej⟩ := List.getElem_of_mem hm2
      have hij : i = j := by
        have h1 : (I.tab.meths.map (·.1))[i]'(by simpa using hi) = (I.tab.meths.map (·.1))[j]'(by simpa using hj) := by simp [ei, ej]
        exact (List.getElem_inj ok.mnd).mp h1
      subst hij
      rw [ei] at ej
      exact ((Prod.mk.inj ej).2).symm
    refine ⟨He.ma K (He.ga K x) m, fd, d.ps, hM, FP, fun j ds' hfl => ?_⟩
    exact (ok.defs d hd).bnd K _ fd F j ds' (by rw [ho]; exact hfl)
  · have h2 := (List.mem_filter.mp hm).2
    rw [Bool.and_eq_true] at h2
    have hi : m ∈ I.atts := List.mem_of_getElem? q
    have h3 := h2.1
    simp [hi] at h3
  · obtain ⟨x, e1, hx, rfl⟩ := wcls hC
    refine ⟨He.cls_ok (t.cls hx).1, ?_⟩
    obtain ⟨d, hd, hid, fd, F, FP⟩ := hc _ hh
    have h2 := (List.mem_filter.mp hm).2
    rw [Bool.and_eq_true] at h2
    have h3 := List.all_eq_true.mp h2.2 d hd
    rw [hid] at h3
    have h4 : (d.own.1.isEmpty && d.own.2.isEmpty) = true := by simpa using h3
    have h5 := Bool.and_eq_true_iff.mp h4
    have ha := at_of' ok hd
    have hf := fact_of t hd
    unfold atOk at ha
    unfold defFact at hf
    rw [hid] at ha hf
    simp only [e1] at ha
    have ha := of_decide_eq_true ha
    have hf : (He.Fa.meth d.at_.1 m).ok K = true := hf
    rw [ha] at F FP hf
    obtain ⟨dvs, us, c1, c2, c3⟩ := (ok.defs d hd).bnd K _ fd F 0 [] (by
      have g1 := List.isEmpty_iff.mp h5.1
      have g2 := List.isEmpty_iff.mp h5.2
      unfold fills
      rw [g1, g2]
      rfl)
    cases c1
    cases c2
    exact ⟨He.ma K (He.ga K x) m, fd, d.ps, He.meth_ok hf, FP, c3⟩
  · exact place_get e
  · obtain ⟨x, e1, hx, rfl⟩ := wcls hC
    have hi : f ∈ I.atts := List.mem_of_getElem? (place_get e)
    exact ⟨He.cls_ok (t.cls hx).1, He.noat_ok ((t.cls hx).2.2 f hi)⟩
  · obtain ⟨x, e1, hx, rfl⟩ := wcls hC
    obtain ⟨d, hd, hid, fd, F, FP⟩ := hc _ hh
    have h3 := List.all_eq_true.mp ok.eqs d hd
    rw [hid] at h3
    have h4 : (d.own.1.length == 1 && d.own.2.isEmpty) = true := by simpa using h3
    have h5 := Bool.and_eq_true_iff.mp h4
    have ha := at_of' ok hd
    have hf := fact_of t hd
    unfold atOk at ha
    unfold defFact at hf
    rw [hid] at ha hf
    simp only [e1] at ha
    have ha := of_decide_eq_true ha
    have hf : (He.Fa.meth d.at_.1 "__eq__").ok K = true := hf
    rw [ha] at F FP hf
    obtain ⟨dvs, us, c1, c2, c3⟩ := (ok.defs d hd).bnd K _ fd F 1 [] (by
      have g1 := eq_of_beq h5.1
      have g2 := List.isEmpty_iff.mp h5.2
      unfold fills
      rw [g1, g2]
      rfl)
    cases c1
    cases c2
    exact ⟨He.ma K (He.ga K x) "__eq__", fd, d.ps, He.meth_ok hf, FP, c3⟩
  · obtain ⟨e1, hx⟩ := clsAt e
    refine ⟨He.ga K x, ?_, He.glo_ok X M (t.cls hx).2.1⟩
    show (I.cls[c]?).map _ = _
    rw [e1]
    rfl
  · obtain ⟨d, hd, hid, hq, ho⟩ := tab_kfn e
    obtain ⟨d', hd', hid', fd, F, FP⟩ := hc _ hh
    have := same_id ok hd hd' (hid.trans hid'.symm)
    subst this
    have ha := at_of' ok hd
    have hf := fact_of t hd
    unfold atOk at ha
    unfold defFact at hf
    rw [hid] at ha hf
    have ha := of_decide_eq_true ha
    rw [ha] at F FP
    refine ⟨He.ga K f, fd, d.ps, He.glo_ok X M hf, F.kp, FP, ?_⟩
    have hb := (ok.defs d hd).kbn K _ fd F q hq
    unfold DefI.first at hb
    rw [hid, ho] at hb
    exact hb
  · obtain ⟨d, hd, c', hid, hat, hq, ho⟩ := tab_kin e
    obtain ⟨e1, hx⟩ := clsAt ec
    have ha := at_of' ok hd
    unfold atOk at ha
    rw [hid] at ha
    cases q' : I.cls[c']? with
    | none => simp only [q'] at ha; cases ha
    | some y =>
      simp only [q'] at ha
      have ha := of_decide_eq_true ha
      have hy : y = x := by rw [ha] at hat; exact hat
      subst hy
      have hcc : c' = c := by
        obtain ⟨h1, z1⟩ := List.getElem?_eq_some_iff.mp q'
        obtain ⟨h2, z2⟩ := List.getElem?_eq_some_iff.mp e1
        exact (List.getElem_inj ok.cls).mp (z1.trans z2.symm)
      subst hcc
      obtain ⟨d', hd', hid', fd, F, FP⟩ := hc _ hh
      have := same_id ok hd hd' (hid.trans hid'.symm)
      subst this
      have hf := fact_of t hd
      unfold defFact at hf
      rw [hid] at hf
      have hf : (He.Fa.mkr d.at_.1).ok K = true := hf
      rw [ha] at F FP hf
      have hM := He.mkr_ok hf
      have hb := (ok.defs d hd).kbn K _ fd F q hq
      unfold DefI.first at hb
      rw [hid, ho] at hb
      refine ⟨He.ga K y, He.ma K (He.ga K y) "__init__", fd, d.ps, He.glo_ok X M (t.cls hx).2.1, ?_, hM.kp, hM, FP, hb⟩
      show (I.cls[c']?).map _ = _
      rw [e1]
      rfl
theorem gf_all (ok : TextOk I) (t : TopOk I K) (X : K.In base) (M : base.Ns mainGlobals mg) : ∀ n, GF I.tab (I.txt.at n) (I.wd ok.atts K) (2 * n) P w K mg base
  | 0 => gf_mk ok t X M (fun _ => rfl) fun id h => by cases h
  | n + 1 => gf_mk ok t X M (fun _ => rfl) fun id h => by
    obtain ⟨d, hd, hid, e⟩ := has_of h
    obtain ⟨fd, F, FP⟩ := fn_level ok t (gf_all ok t X M n) hd
    rw [e]
    exact ⟨d, hd, hid, fd, F, FP⟩
/-- a def's promise -/
theorem fn_at (ok : TextOk I) (t : TopOk I K) (X : K.In base) (M : base.Ns mainGlobals mg) (n : Nat) {d : DefI} (hd : d ∈ I.defs) : ∃ fd, FunD K d.name d.qual (defArgs d.st) (defBody d.st) (defScope d.st) (d.dd.dvs K) [] (He.fAd K d.at_) fd ∧
    FnP P w K mg base (2 * (n + 1)) (He.fAd K d.at_) fd d.ps (SpOf (I.wd ok.atts K) (callDef (I.txt.at n) (I.df d))) := fn_level ok t (gf_all ok t X M n) hd
end
end Pk
end
section
set_option Elab.async false
set_option linter.all false
set_option maxRecDepth 100000
set_option maxHeartbeats 2000000
/-! The law's own call. -/
namespace Pk
open PySem L2 PyProof.Rows

theorem caller_guards : callerA.guards = some [] := rfl
section
variable {P : Program} {w : World} {K : PySem.W.Frag} {mg mb : Str → Option Value} {s : Shared} {H : Hp} {a : Addr}
/-- the module's facts stand in the heap without the script, too -/
theorem entry_env {o : Obj} {its : Array Value} {m : Nat} (inK : K.In s.heap) (nsG : s.heap.Ns mainGlobals mg) (nsB : s.heap.Ns builtinsNs mb) (boot : ∀ x : Str, x ≠ "__name__" → mb x = bootBuiltins x) (lim : s.heap.NoLimit) (gens : s.gens = #[])
    (at_ : s.heap.get? a = some o) (seq : o.data = .seq its m) (hok : HOk P w H s.heap) (sole : ∀ b, H b ≠ none → b = a ∧ K.lookup a = none) :
    K.In (hidT s.heap H) ∧ (hidT s.heap H).Ns mainGlobals mg ∧ Env0 P w K mg (hidT s.heap H) callerA [] s H := by
  have keepD : ∀ {b : Addr} {u : Obj} {es : Array DictEntry} {ep : Nat}, s.heap.get? b = some u → u.data = .dict es ep → (hidT s.heap H).get? b = some u := by
    intro b u es ep e d
    refine hidT_get e (Classical.byContradiction fun q => ?_)
    obtain ⟨rfl, _⟩ := sole b q
    rw [e] at at_
    cases at_
    rw [d] at seq
    cases seq
  have keepN : ∀ {b : Addr} {f : Str → Option Value}, s.heap.Ns b f → (hidT s.heap H).Ns b f := by
    rintro b f ⟨u, es, ep, h1, h2, h3⟩
    exact ⟨u, es, ep, keepD h1 h2, h2, h3⟩
  have k0 : K.In (hidT s.heap H) := by
    intro b u e
    refine hidT_get (inK b u e) (Classical.byContradiction fun q => ?_)
    obtain ⟨rfl, z⟩ := sole b q
    rw [z] at e
    cases e
  obtain ⟨f, l1, l2⟩ := lim
  have md : Mod K mg (hidT s.heap H) := ⟨k0, keepN nsG, ⟨mb, keepN nsB, boot⟩, ⟨f, keepN l1, l2⟩⟩
  refine ⟨k0, keepN nsG, rfl, md, fun b u e => of_hidT e, ?_, trivial, fun b hb => (by cases hb), hok, .of_eq gens⟩
  rw [hidT_size]
  exact Nat.le_refl _
/-- the law's call, where its promise tells True -/
theorem entry_run {fa : Addr} {fd : FuncData} {x : Str} {k : Nat} {sp : Sp} {base : Heap} (F : FnP P w K mg base k fa fd [x] sp) (hr : Room k callerA) (e0 : Env0 P w K mg base callerA [] s H) (hb : ∀ (s : Shared) (u : Value), BindsTo s fd ⟨[u], []⟩ [(x, u)])
    (still : ∀ b, H b = none ∨ ∃ o xs, H b = some (.frz o (.lst xs))) (h : sp [.ref a] H (fun v _ => v = .bl true) fun _ _ _ => False) :
    codeAny (model P w) callerA (.call (.ref fa) ⟨[.ref a], []⟩) (fun r s' => r = .ok (.ret (.bool true)) ∧ OldK s.heap s'.heap ∧ s'.os = s.os ∧ AllBare s'.gens) s := by
  have run := F.run callerA [] s H ⟨[.ref a], []⟩ [.ref a] [.ref a] (fun v _ => v = .bl true) (fun _ _ _ => False) hr caller_guards e0 (hb s (.ref a)) (.cons rfl .nil) h
  refine codeAny_mono run ?_
  rintro (e | fl) s' q
  · exact q.elim
  · cases fl <;> first | exact q.elim | skip
    obtain ⟨v, H', same, bare, un, ok', rv, rfl⟩ := q
    cases rv
    refine ⟨rfl, OldK.of_keep ?_, same, bare⟩
    intro b o e
    rcases still b with z | ⟨ob, xs, z⟩
    · exact un.keep b o e z (fun q => by cases q) (by simp)
    · have old := (e0.hok b _ z).1
      rw [e] at old
      cases old
      exact (ok' b _ (un.frzs b _ _ z)).1
end
/-- the script at hand -/
theorem entry_script {P : Program} {w : World} {K : PySem.W.Frag} {s : Shared} {a : Addr} {vs : List Value} {ns : List Int} (inK : K.In s.heap) (at_ : s.heap.get? a = some { cls := .type "list", data := .seq vs.toArray }) (hi : IntsAre vs ns) (hl : ns.length ≤ sizeLine) :
    ∃ H : Hp, HOk P w H s.heap ∧ (∀ b, H b ≠ none → b = a ∧ K.lookup a = none) ∧ (∀ b, H b = none ∨ ∃ o xs, H b = some (.frz o (.lst xs))) ∧ ScrAt K H a (ns.map V.int) := by
  have rv := vals_ints hi
  have hlen := hi.length
  cases q : K.lookup a with
  | some o =>
    have e := inK a o q
    rw [at_] at e
    cases e
    exact ⟨fun _ => none, fun b u z => (by cases z), fun b z => (z rfl).elim, fun b => .inl rfl, .inr ⟨_, vs.toArray, _, q, rfl, rfl, rfl, by rw [List.size_toArray, hlen]; exact hl, by simpa using rv⟩⟩
  | none =>
    refine ⟨fun b => if b = a then some (.frz { cls := .type "list", data := .seq vs.toArray } (.lst (ns.map V.int))) else none, ?_, ?_, ?_, .inl ⟨{ cls := .type "list", data := .seq vs.toArray }, if_pos rfl⟩⟩
    · intro b u z
      by_cases hb : b = a
      · subst hb
        have z2 : some (HO.frz { cls := .type "list", data := .seq vs.toArray } (.lst (ns.map V.int))) = some u := (if_pos rfl).symm.trans z
        cases z2
        exact ⟨at_, by rw [List.length_map]; exact hl, vs, _, rv, at_⟩
      · have z2 : (none : Option HO) = some u := (if_neg hb).symm.trans z
        cases z2
    · intro b z
      exact ⟨Classical.byContradiction fun hb => z (if_neg hb), rfl⟩
    · intro b
      by_cases hb : b = a
      · exact .inr ⟨_, _, if_pos hb⟩
      · exact .inl (if_neg hb)
/-- THE LAW: its run in the small language tells True -/
theorem walk_pk {l : PySem.W.OpenLaw} {I : TextI} {d : DefRec} {q : Program} {loose : List Str} {XP : (Str → Option Value) → Heap → Prop} {dL : DefI} {x : Str} {n lv m : Nat} (ok : TextOk I) (hL : dL ∈ I.defs) (hid : dL.id = .fn d.name) (hps : dL.ps = [x]) (hown : dL.own = ([x], []))
    (hbind : ∀ (K : PySem.W.Frag) (f : Addr) (fd : FuncData), FunD K dL.name dL.qual (defArgs dL.st) (defBody dL.st) (defScope dL.st) (dL.dd.dvs K) [] f fd → ∀ (s : Shared) (u : Value), BindsTo s fd ⟨[u], []⟩ [(x, u)])
    (hn : l.most = some n) (hn2 : n ≤ sizeLine) (hdf : d.params.defaults = []) (hr : Room (2 * (lv + 1)) callerA)
    (hev : ∀ ns : List Int, ns.length ≤ n → ∃ S', callDef (I.txt.at lv) (I.df dL) [dv (.scr ns)] ⟨[], []⟩ = .ok (bv true) S') :
    PySem.W.WalkO q loose XP (He.hookX m [] (I.defs.map DefI.dd) [] [] (exB I)).says l.row.toRowW d [] (fun f vs => PySem.call f vs) := by
  refine Att.attach_call hn hdf fun w s₀ s₁ mg mb fa o pm cd doc a vs ns G Y ho hd hcd hmg hobj hints hlen hg => ?_
  obtain ⟨K, inK, c⟩ := Y
  have top : TopOk I K := ⟨c.more, fun e he => He.SaysD.defs c.t.d (List.mem_map.mpr ⟨e, he, rfl⟩)⟩
  obtain ⟨H, hok, sole, still, scr⟩ := entry_script (P := l.prog) (w := w) inK hobj hints (Nat.le_trans hlen hn2)
  obtain ⟨k0, nsG, e0⟩ := entry_env inK G.T.g G.T.b G.T.builtins G.T.nolimit hg hobj rfl hok sole
  obtain ⟨fd, F, FP⟩ := fn_at (P := l.prog) (w := w) (mg := mg) ok top k0 nsG lv hL
  have hat := at_of' ok hL
  have hf := fact_of top hL
  unfold atOk at hat
  unfold defFact at hf
  rw [hid] at hat hf
  have hat := of_decide_eq_true hat
  have hfa : mg d.name = some (.ref (He.ga K d.name)) := He.glo_ok inK G.T.g hf
  rw [hmg] at hfa
  have efa : fa = He.ga K d.name := by injection hfa with z; injection z
  have hb := hbind K _ fd F
  rw [hat, hps] at FP
  rw [efa]
  refine entry_run FP hr e0 hb still ?_
  obtain ⟨S', hS⟩ := hev ns hlen
  have hL0 : Ok (I.wd ok.atts K) ⟨fun _ => False, [], H⟩ ⟨[], []⟩ := ⟨fun _ z => z.elim, fun _ z => (by cases z), List.nodup_nil, rfl, fun i a o e => by simp at e⟩
  refine ⟨⟨fun _ => False, [], H⟩, ⟨[], []⟩, ⟨fun _ => False, [], H⟩, ⟨[], []⟩, [dv (.scr ns)], rfl, hL0.refl, hL0, SS.refl _, ⟨.cons (RepD.scr scr) .nil, by simp [temps, tempOf, dv]⟩, ?_⟩
  rw [hS]
  intro L' s' o' q' v rv
  cases (show RepD _ L'.Z L'.H v (.bl true) from rv)
  rfl
/-! ### parameters bound -/
theorem fills_none {ps : List Str} {j : Nat} {ds' : List D} (h : fills ps [] j = some ds') : ds' = [] := by
  unfold fills at h
  obtain ⟨_, h⟩ := ite_some h
  rw [← h]
  simp
theorem bnd_none {d : DefI} (h0 : d.own.2 = [])
    (hb : ∀ (kV doc pm : Value) (an : Option Addr) (cdv ct : Value) (us : List Value), us.length = d.ps.length → bindArgs (PySem.W.fnOf d.name d.qual (defArgs d.st) (defBody d.st) (defScope d.st) .none kV doc pm an cdv ct) ⟨us, []⟩ = pure (d.ps.zip us)) :
    ∀ (K : PySem.W.Frag) (f : Addr) (fd : FuncData), FunD K d.name d.qual (defArgs d.st) (defBody d.st) (defScope d.st) (d.dd.dvs K) [] f fd → ∀ j ds', fills d.own.1 d.own.2 j = some ds' → ∃ dvs us, CstL ds' dvs ∧ Vals dvs us ∧ Binds K fd d.ps us := by
  intro K f fd F j ds' h
  have e : d.dd.dvs K = [] := by
    unfold He.DefD.dvs DefI.dd
    rw [h0]
    rfl
  rw [e] at F
  rw [h0] at h
  have := fills_none h
  subst this
  exact ⟨[], [], .nil, .nil, F.bindsN hb⟩
theorem cst_dv {K : PySem.W.Frag} : ∀ {ds : List D}, (ds.all fun d => (constV d).isSome) = true → CstL ds ((ds.map dvOf).map (He.Dv.v K))
  | [], _ => .nil
  | d :: ds, h => by
    rw [List.all_cons, Bool.and_eq_true] at h
    refine .cons ?_ (cst_dv h.2)
    cases d <;> first | rfl | (cases h.1; done)
theorem bnd_dfl {d : DefI} (h0 : d.own.2 ≠ []) (hc : (d.own.2.all fun d => (constV d).isSome) = true) (hs : d.own.1.length ≤ d.ps.length) (hm : d.own.2.length ≤ d.own.1.length)
    (hb : ∀ (T : Addr) (kV doc pm : Value) (an : Option Addr) (cdv ct : Value) (us its : List Value), d.ps.length ≤ us.length + d.own.2.length → us.length ≤ d.ps.length → its.length = d.own.2.length →
      ∃ k, bindArgs (PySem.W.fnOf d.name d.qual (defArgs d.st) (defBody d.st) (defScope d.st) (.ref T) kV doc pm an cdv ct) ⟨us, []⟩ = seqItems? (.ref T) >>= k ∧ k (some its.toArray) = pure (d.ps.zip (us ++ its.drop (us.length + its.length - d.ps.length)))) :
    ∀ (K : PySem.W.Frag) (f : Addr) (fd : FuncData), FunD K d.name d.qual (defArgs d.st) (defBody d.st) (defScope d.st) (d.dd.dvs K) [] f fd → ∀ j ds', fills d.own.1 d.own.2 j = some ds' → ∃ dvs us, CstL ds' dvs ∧ Vals dvs us ∧ Binds K fd d.ps us := by
  intro K f fd F j ds' h
  unfold fills at h
  obtain ⟨⟨h1, h2⟩, h⟩ := ite_some h
  have hl : (d.dd.dvs K).length = d.own.2.length := by
    unfold He.DefD.dvs DefI.dd
    rw [List.length_map, List.length_map]
  have hd : d.dd.dvs K ≠ [] := fun q => by
    rw [q] at hl
    exact h0 (List.length_eq_zero_iff.mp hl.symm)
  obtain ⟨us, r, b⟩ := F.binds1 (ps := d.ps) (j + (d.ps.length - d.own.1.length)) (j + d.own.2.length - d.own.1.length) hd (by rw [hl]; omega) fun T kV doc pm an cdv ct us its l1 l2 => by
    rw [hl] at l2
    obtain ⟨k, e1, e2⟩ := hb T kV doc pm an cdv ct us its (by omega) (by omega) l2
    refine ⟨k, e1, ?_⟩
    rw [e2, show us.length + its.length - d.ps.length = j + d.own.2.length - d.own.1.length by omega]
  refine ⟨_, us, ?_, r, b⟩
  rw [← h]
  have key : ∀ {ds : List D} {vs : List V} (n : Nat), CstL ds vs → CstL (ds.drop n) (vs.drop n) := by
    intro ds vs n c
    induction c generalizing n with
    | nil => simpa using (Paired.nil : CstL [] [])
    | cons r t ih =>
      cases n with
      | zero => exact .cons r t
      | succ n => exact ih n
  exact key _ (cst_dv hc)
theorem kbn_none {d : DefI} (h : d.kws = []) : ∀ (K : PySem.W.Frag) (f : Addr) (fd : FuncData), FunD K d.name d.qual (defArgs d.st) (defBody d.st) (defScope d.st) (d.dd.dvs K) [] f fd → ∀ q ∈ d.kws, KwB K fd d.ps d.first d.own.2 q := by
  intro K f fd F q m
  rw [h] at m
  cases m
theorem kbn_cons {d : DefI} {q0 : KwP} {r : List KwP} (h0 : ∀ (K : PySem.W.Frag) (f : Addr) (fd : FuncData), FunD K d.name d.qual (defArgs d.st) (defBody d.st) (defScope d.st) (d.dd.dvs K) [] f fd → KwB K fd d.ps d.first d.own.2 q0)
    (h1 : ∀ (K : PySem.W.Frag) (f : Addr) (fd : FuncData), FunD K d.name d.qual (defArgs d.st) (defBody d.st) (defScope d.st) (d.dd.dvs K) [] f fd → ∀ q ∈ r, KwB K fd d.ps d.first d.own.2 q) :
    ∀ (K : PySem.W.Frag) (f : Addr) (fd : FuncData), FunD K d.name d.qual (defArgs d.st) (defBody d.st) (defScope d.st) (d.dd.dvs K) [] f fd → ∀ q ∈ q0 :: r, KwB K fd d.ps d.first d.own.2 q := by
  intro K f fd F q m
  rcases List.mem_cons.mp m with rfl | m
  · exact h0 K f fd F
  · exact h1 K f fd F q m
/-- a way of calling a def with defaults -/
theorem kw_dfl {d : DefI} {q : KwP} (h0 : d.own.2 ≠ []) (hc : (d.own.2.all fun d => (constV d).isSome) = true) (nd : (q.ns.map Int.toNat).Nodup)
    (hb : ∀ (T : Addr) (kV doc pm : Value) (an : Option Addr) (cdv ct : Value) (fs us ws its : List Value), fs.length = d.first → us.length = q.n → ws.length = q.ks.length → its.length = d.own.2.length →
      ∃ k, bindArgs (PySem.W.fnOf d.name d.qual (defArgs d.st) (defBody d.st) (defScope d.st) (.ref T) kV doc pm an cdv ct) ⟨fs ++ us, q.ks.zip ws⟩ = seqItems? (.ref T) >>= k ∧ k (some its.toArray) = pure (d.ps.zip (fs ++ pick .none q.ns (us ++ ws ++ its)))) :
    ∀ (K : PySem.W.Frag) (f : Addr) (fd : FuncData), FunD K d.name d.qual (defArgs d.st) (defBody d.st) (defScope d.st) (d.dd.dvs K) [] f fd → KwB K fd d.ps d.first d.own.2 q := by
  intro K f fd F
  have hl : (d.dd.dvs K).length = d.own.2.length := by
    unfold He.DefD.dvs DefI.dd
    rw [List.length_map, List.length_map]
  have hd : d.dd.dvs K ≠ [] := fun q => by
    rw [q] at hl
    exact h0 (List.length_eq_zero_iff.mp hl.symm)
  obtain ⟨oc, od, dV, kV, doc, pm, an, cdv, ct, osl, rfl, lk, hcd, hD, hK⟩ := F.ex
  rcases hD with ⟨e, _⟩ | ⟨_, T, o, its, m, rfl, lT, oT, rT⟩
  · exact absurd e hd
  · refine ⟨nd, _, its, cst_dv hc, rT, fun s fs us ws X l0 l1 l2 => ?_⟩
    obtain ⟨k, e1, e2⟩ := hb T kV doc pm an cdv ct fs us ws its l0 l1 l2 (rT.length.symm.trans hl)
    refine BindsTo.of_looks fun M => ?_
    rw [e1]
    exact looks_items X lT oT (.of_pure e2)
/-- .. of one without defaults -/
theorem kw_none {d : DefI} {q : KwP} (h0 : d.own.2 = []) (nd : (q.ns.map Int.toNat).Nodup)
    (hb : ∀ (kV doc pm : Value) (an : Option Addr) (cdv ct : Value) (fs us ws : List Value), fs.length = d.first → us.length = q.n → ws.length = q.ks.length →
      bindArgs (PySem.W.fnOf d.name d.qual (defArgs d.st) (defBody d.st) (defScope d.st) .none kV doc pm an cdv ct) ⟨fs ++ us, q.ks.zip ws⟩ = pure (d.ps.zip (fs ++ pick .none q.ns (us ++ ws ++ [])))) :
    ∀ (K : PySem.W.Frag) (f : Addr) (fd : FuncData), FunD K d.name d.qual (defArgs d.st) (defBody d.st) (defScope d.st) (d.dd.dvs K) [] f fd → KwB K fd d.ps d.first d.own.2 q := by
  intro K f fd F
  have e : d.dd.dvs K = [] := by
    unfold He.DefD.dvs DefI.dd
    rw [h0]
    rfl
  obtain ⟨oc, od, dV, kV, doc, pm, an, cdv, ct, osl, rfl, lk, hcd, hD, hK⟩ := F.ex
  rcases hD with ⟨_, rfl⟩ | ⟨e', _⟩
  · refine ⟨nd, [], [], by rw [h0]; exact .nil, .nil, fun s fs us ws X l0 l1 l2 => .of_eq (hb kV doc pm an cdv ct fs us ws l0 l1 l2)⟩
  · exact absurd e e'
end Pk
end
section
set_option Elab.async false
set_option linter.all false
set_option maxRecDepth 100000
set_option maxHeartbeats 4000000
/-! The tables of law_k01_things. -/
namespace Pk.K01
open PySem L2 PyProof.Rows
abbrev prog : Program := PySem.Challenge.pw_packbags_k01_things
def top (i : Nat) : Stmt := prog.main.body.getD i (.Pass ⟨0, 0, 0, 0⟩)
def suite : Stmt → List Stmt
  | .ClassDef _ _ _ b _ _ _ _ _ _ _ => b
  | _ => []
def met (i j : Nat) : Stmt := (suite (top i)).getD j (.Pass ⟨0, 0, 0, 0⟩)
def d_is_name : DefI := ⟨.fn "is_name", ("is_name", none), "is_name", "is_name", top 9, ["thing", "sign"], ["thing"], (["thing"], []), [], [false], []⟩
def d_is_within : DefI := ⟨.fn "is_within", ("is_within", none), "is_within", "is_within", top 10, ["thing", "least", "most"], ["thing", "least", "most"], (["thing", "least", "most"], []), [], [false, false, false], []⟩
def d_rises : DefI := ⟨.fn "rises", ("rises", none), "rises", "rises", top 11, ["row", "one", "other"], ["row"], (["row"], []), [], [false], []⟩
def d_is_rising_names : DefI := ⟨.fn "is_rising_names", ("is_rising_names", none), "is_rising_names", "is_rising_names", top 12, ["thing", "one"], ["thing"], (["thing"], []), [], [false], []⟩
def d_need_name : DefI := ⟨.fn "need_name", ("need_name", none), "need_name", "need_name", top 13, ["thing"], ["thing"], (["thing"], []), [], [false], []⟩
def d_Thing_init : DefI := ⟨.init 0, ("Thing", some ("__init__" : Str)), "__init__", "Thing.__init__", met 14 0, ["self", "name", "weight", "bags"], ["self", "name", "weight", "bags"], (["name", "weight", "bags"], [(.int 1), .non]), [], [false, false, false, false], [⟨0, ["bags", "weight", "name"], [2, 1, 0]⟩, ⟨1, ["bags"], [0, 2, 1]⟩]⟩
def d_Thing_eq : DefI := ⟨.me 0 "__eq__", ("Thing", some ("__eq__" : Str)), "__eq__", "Thing.__eq__", met 14 1, ["self", "other"], ["self", "other"], (["other"], []), [], [false, false], []⟩
def d_Thing_repr : DefI := ⟨.me 0 "__repr__", ("Thing", some ("__repr__" : Str)), "__repr__", "Thing.__repr__", met 14 2, ["self"], ["self"], ([], []), [], [false], []⟩
def d_Thing_str : DefI := ⟨.me 0 "__str__", ("Thing", some ("__str__" : Str)), "__str__", "Thing.__str__", met 14 3, ["self", "words"], ["self"], ([], []), ["words"], [false], []⟩
def d_law_cell : DefI := ⟨.fn "_law_cell", ("_law_cell", none), "_law_cell", "_law_cell", top 16, ["_law_script", "_law_k"], ["_law_script", "_law_k"], (["_law_script", "_law_k"], []), [], [false, false], []⟩
def d_law_pen : DefI := ⟨.fn "_law_pen", ("_law_pen", none), "_law_pen", "_law_pen", top 17, ["_law_cell_here", "_law_more"], ["_law_cell_here"], (["_law_cell_here"], []), [], [false], []⟩
def d_law_draw : DefI := ⟨.fn "_law_draw", ("_law_draw", none), "_law_draw", "_law_draw", top 18, ["_law_pen_here", "_law_many", "_law_rest", "_law_drawn", "_law_stir"], ["_law_pen_here", "_law_many"], (["_law_pen_here", "_law_many"], []), ["_law_pen_here"], [true, false], []⟩
def d_law_name : DefI := ⟨.fn "_law_name", ("_law_name", none), "_law_name", "_law_name", top 19, ["_law_pen_here", "_law_way", "_law_turn"], ["_law_pen_here"], (["_law_pen_here"], []), ["_law_pen_here"], [true], []⟩
def d_law_names : DefI := ⟨.fn "_law_names", ("_law_names", none), "_law_names", "_law_names", top 20, ["_law_pen_here", "_law_many", "_law_turn"], ["_law_pen_here", "_law_many"], (["_law_pen_here", "_law_many"], []), ["_law_pen_here"], [true, false], []⟩
def d_law_right : DefI := ⟨.fn "_law_right", ("_law_right", none), "_law_right", "_law_right", top 21, ["_law_word", "_law_grams", "_law_some", "_law_one", "_law_other", "_law_shown", "_law_plain"], ["_law_word", "_law_grams", "_law_some"], (["_law_word", "_law_grams", "_law_some"], []), [], [false, false, false], []⟩
def d_law : DefI := ⟨.fn "law", ("law", none), "law", "law", top 22, ["_law_script", "_law_cell_here", "_law_pen_here", "_law_turn", "_law_word", "_law_grams", "_law_some", "_law_here", "_law_others", "_law_other"], ["_law_script"], (["_law_script"], []), ["_law_others", "_law_pen_here"], [false], []⟩
def I : TextI := ⟨["Thing"], ["name", "weight", "bags"], ["past", "seen", "chest"], [], [d_is_name, d_is_within, d_rises, d_is_rising_names, d_need_name, d_Thing_init, d_Thing_eq, d_Thing_repr, d_Thing_str, d_law_cell, d_law_pen, d_law_draw, d_law_name, d_law_names, d_law_right, d_law], [("LETTERS", (.str "abcdefghijklmnopqrstuvwxyz")), ("LONGEST", (.int 8)), ("MOST_WEIGHT", (.int 9999))]⟩
theorem ok_is_name : DefOk I d_is_name where
  sc := ⟨rfl, rfl, rfl, by decide +kernel, rfl, by decide +kernel, by decide +kernel⟩
  par := rfl
  tr := by decide +kernel
  bnd := bnd_none rfl fun _ _ _ _ _ _ us hl => match us, hl with | [_], _ => rfl
  kbn := kbn_none rfl
theorem ok_is_within : DefOk I d_is_within where
  sc := ⟨rfl, rfl, rfl, by decide +kernel, rfl, by decide +kernel, by decide +kernel⟩
  par := rfl
  tr := by decide +kernel
  bnd := bnd_none rfl fun _ _ _ _ _ _ us hl => match us, hl with | [_, _, _], _ => rfl
  kbn := kbn_none rfl
theorem ok_rises : DefOk I d_rises where
  sc := ⟨rfl, rfl, rfl, by decide +kernel, rfl, by decide +kernel, by decide +kernel⟩
  par := rfl
  tr := by decide +kernel
  bnd := bnd_none rfl fun _ _ _ _ _ _ us hl => match us, hl with | [_], _ => rfl
  kbn := kbn_none rfl
theorem ok_is_rising_names : DefOk I d_is_rising_names where
  sc := ⟨rfl, rfl, rfl, by decide +kernel, rfl, by decide +kernel, by decide +kernel⟩
  par := rfl
  tr := by decide +kernel
  bnd := bnd_none rfl fun _ _ _ _ _ _ us hl => match us, hl with | [_], _ => rfl
  kbn := kbn_none rfl
theorem ok_need_name : DefOk I d_need_name where
  sc := ⟨rfl, rfl, rfl, by decide +kernel, rfl, by decide +kernel, by decide +kernel⟩
  par := rfl
  tr := by decide +kernel
  bnd := bnd_none rfl fun _ _ _ _ _ _ us hl => match us, hl with | [_], _ => rfl
  kbn := kbn_none rfl
theorem ok_Thing_init : DefOk I d_Thing_init where
  sc := ⟨rfl, rfl, rfl, by decide +kernel, rfl, by decide +kernel, by decide +kernel⟩
  par := rfl
  tr := by decide +kernel
  bnd := bnd_dfl (by intro h; cases h) rfl (by decide) (by decide) fun T kV doc pm an cdv ct us its h1 h2 h3 => match us, its, h1, h2, h3 with
    | [_, _], [_, _], _, _, _ => ⟨_, rfl, rfl⟩
    | [_, _, _], [_, _], _, _, _ => ⟨_, rfl, rfl⟩
    | [_, _, _, _], [_, _], _, _, _ => ⟨_, rfl, rfl⟩
  kbn := kbn_cons (kw_dfl (by intro h; cases h) rfl (by decide) fun T kV doc pm an cdv ct fs us ws its h1 h2 h3 h4 => match fs, us, ws, its, h1, h2, h3, h4 with
    | [_], [], [_, _, _], [_, _], _, _, _, _ => ⟨_, rfl, rfl⟩) (kbn_cons (kw_dfl (by intro h; cases h) rfl (by decide) fun T kV doc pm an cdv ct fs us ws its h1 h2 h3 h4 => match fs, us, ws, its, h1, h2, h3, h4 with
    | [_], [_], [_], [_, _], _, _, _, _ => ⟨_, rfl, rfl⟩) (fun K f fd F q m => by cases m))
theorem ok_Thing_eq : DefOk I d_Thing_eq where
  sc := ⟨rfl, rfl, rfl, by decide +kernel, rfl, by decide +kernel, by decide +kernel⟩
  par := rfl
  tr := by decide +kernel
  bnd := bnd_none rfl fun _ _ _ _ _ _ us hl => match us, hl with | [_, _], _ => rfl
  kbn := kbn_none rfl
theorem ok_Thing_repr : DefOk I d_Thing_repr where
  sc := ⟨rfl, rfl, rfl, by decide +kernel, rfl, by decide +kernel, by decide +kernel⟩
  par := rfl
  tr := by decide +kernel
  bnd := bnd_none rfl fun _ _ _ _ _ _ us hl => match us, hl with | [_], _ => rfl
  kbn := kbn_none rfl
theorem ok_Thing_str : DefOk I d_Thing_str where
  sc := ⟨rfl, rfl, rfl, by decide +kernel, rfl, by decide +kernel, by decide +kernel⟩
  par := rfl
  tr := by decide +kernel
  bnd := bnd_none rfl fun _ _ _ _ _ _ us hl => match us, hl with | [_], _ => rfl
  kbn := kbn_none rfl
theorem ok_law_cell : DefOk I d_law_cell where
  sc := ⟨rfl, rfl, rfl, by decide +kernel, rfl, by decide +kernel, by decide +kernel⟩
  par := rfl
  tr := by decide +kernel
  bnd := bnd_none rfl fun _ _ _ _ _ _ us hl => match us, hl with | [_, _], _ => rfl
  kbn := kbn_none rfl
theorem ok_law_pen : DefOk I d_law_pen where
  sc := ⟨rfl, rfl, rfl, by decide +kernel, rfl, by decide +kernel, by decide +kernel⟩
  par := rfl
  tr := by decide +kernel
  bnd := bnd_none rfl fun _ _ _ _ _ _ us hl => match us, hl with | [_], _ => rfl
  kbn := kbn_none rfl
theorem ok_law_draw : DefOk I d_law_draw where
  sc := ⟨rfl, rfl, rfl, by decide +kernel, rfl, by decide +kernel, by decide +kernel⟩
  par := rfl
  tr := by decide +kernel
  bnd := bnd_none rfl fun _ _ _ _ _ _ us hl => match us, hl with | [_, _], _ => rfl
  kbn := kbn_none rfl
theorem ok_law_name : DefOk I d_law_name where
  sc := ⟨rfl, rfl, rfl, by decide +kernel, rfl, by decide +kernel, by decide +kernel⟩
  par := rfl
  tr := by decide +kernel
  bnd := bnd_none rfl fun _ _ _ _ _ _ us hl => match us, hl with | [_], _ => rfl
  kbn := kbn_none rfl
theorem ok_law_names : DefOk I d_law_names where
  sc := ⟨rfl, rfl, rfl, by decide +kernel, rfl, by decide +kernel, by decide +kernel⟩
  par := rfl
  tr := by decide +kernel
  bnd := bnd_none rfl fun _ _ _ _ _ _ us hl => match us, hl with | [_, _], _ => rfl
  kbn := kbn_none rfl
theorem ok_law_right : DefOk I d_law_right where
  sc := ⟨rfl, rfl, rfl, by decide +kernel, rfl, by decide +kernel, by decide +kernel⟩
  par := rfl
  tr := by decide +kernel
  bnd := bnd_none rfl fun _ _ _ _ _ _ us hl => match us, hl with | [_, _, _], _ => rfl
  kbn := kbn_none rfl
theorem ok_law : DefOk I d_law where
  sc := ⟨rfl, rfl, rfl, by decide +kernel, rfl, by decide +kernel, by decide +kernel⟩
  par := rfl
  tr := by decide +kernel
  bnd := bnd_none rfl fun _ _ _ _ _ _ us hl => match us, hl with | [_], _ => rfl
  kbn := kbn_none rfl
theorem ok : TextOk I where
  defs := List.forall_mem_cons.mpr ⟨ok_is_name, List.forall_mem_cons.mpr ⟨ok_is_within, List.forall_mem_cons.mpr ⟨ok_rises, List.forall_mem_cons.mpr ⟨ok_is_rising_names, List.forall_mem_cons.mpr ⟨ok_need_name, List.forall_mem_cons.mpr ⟨ok_Thing_init, List.forall_mem_cons.mpr ⟨ok_Thing_eq, List.forall_mem_cons.mpr ⟨ok_Thing_repr, List.forall_mem_cons.mpr ⟨ok_Thing_str, List.forall_mem_cons.mpr ⟨ok_law_cell, List.forall_mem_cons.mpr ⟨ok_law_pen, List.forall_mem_cons.mpr ⟨ok_law_draw, List.forall_mem_cons.mpr ⟨ok_law_name, List.forall_mem_cons.mpr ⟨ok_law_names, List.forall_mem_cons.mpr ⟨ok_law_right, List.forall_mem_cons.mpr ⟨ok_law, (fun _ h => by cases h)⟩⟩⟩⟩⟩⟩⟩⟩⟩⟩⟩⟩⟩⟩⟩⟩
  at_ := by decide +kernel
  ids := by decide +kernel
  cls := by decide +kernel
  atts := by decide +kernel
  natt := by decide +kernel
  mnd := by decide +kernel
  eqs := by decide +kernel
end Pk.K01
end
section
set_option Elab.async false
set_option linter.all false
set_option maxRecDepth 100000
set_option maxHeartbeats 0
/-! The head of law_k01_things. -/
namespace Pk.K01
open PySem PySem.W PyProof.Rows
abbrev R : OpenRow := OpenLaw.row PySem.Challenge.rw_packbags_k01_things
def loose : List Str := [("PackError" : Str), ("NoName" : Str), ("NoWeight" : Str), ("NoBags" : Str), ("LETTERS" : Str), ("LONGEST" : Str), ("MOST_WEIGHT" : Str), ("is_name" : Str), ("is_within" : Str), ("rises" : Str), ("is_rising_names" : Str), ("need_name" : Str), ("Thing" : Str), ("_law_cell" : Str), ("_law_pen" : Str), ("_law_draw" : Str), ("_law_name" : Str), ("_law_names" : Str), ("_law_right" : Str)]
abbrev hk : PySem.W.Hook := He.hookX 6 [] (I.defs.map DefI.dd) [] [] (exB I)
def ob (s : PySem.W.SharedT) : He.AlX := He.obsX 6 [] (I.defs.map DefI.dd) [] [] (exB I) (HandSHeadRun.getT s)
theorem ob_eq (s : PySem.W.SharedT) : ob s = hk.obs s.abs := He.obsX_eq (HandSHeadRun.getT_eq s)
theorem run (w : World) : HandSHeadRun.RunEq R (PySem.W.view R.prog [22]) hk ob 20000 loose w := by
  intro os
  kernel_rfl
end Pk.K01
end
section
set_option Elab.async false
set_option linter.all false
set_option maxRecDepth 100000
/-! What a run of the small language gives: plain rules. -/
namespace Pk
open PySem

/-- a run ends well, with P (a kind of its own, so that nothing runs it by looking) -/
inductive Wp {α : Type} : Res α → (α → St → Prop) → Prop
  | ok {a : α} {S : St} {P : α → St → Prop} : P a S → Wp (.ok a S) P
theorem Wp.out {α : Type} {a : α} {S : St} {P : α → St → Prop} (h : Wp (.ok a S) P) : P a S := by
  cases h
  assumption
theorem Wp.exc {α : Type} {e : D} {S : St} {P : α → St → Prop} (h : Wp (.exc e S) P) : False := nomatch h
theorem Wp.err {α : Type} {P : α → St → Prop} (h : Wp (.err : Res α) P) : False := nomatch h
section
variable {α β : Type} {S : St} {P Q : α → St → Prop} {m : M α}
theorem wp_ok {a : α} : Wp (.ok a S) P = P a S := propext ⟨Wp.out, .ok⟩
theorem wp_ret {a : α} : Wp (ret a S) P = P a S := wp_ok
theorem wp_bnd {f : α → M β} {P : β → St → Prop} : Wp (bnd m f S) P = Wp (m S) fun a S' => Wp (f a S') P := by
  unfold bnd
  cases m S with
  | ok a S' => exact (wp_ok (P := fun a S' => Wp (f a S') P)).symm
  | exc e S' => exact propext ⟨fun h => h.exc.elim, fun h => h.exc.elim⟩
  | err => exact propext ⟨fun h => h.err.elim, fun h => h.err.elim⟩
theorem wp_some {a : α} : Wp (lift (some a) S) P = P a S := wp_ok
theorem wp_mono {r : Res α} (h : Wp r P) (i : ∀ a S', P a S' → Q a S') : Wp r Q := by
  cases h
  exact .ok (i _ _ (by assumption))
theorem wp_eq {r : Res α} {a : α} (h : r = .ok a S) : Wp r P = P a S := by rw [h]; exact wp_ok
theorem wp_lift {o : Option α} {a : α} (h : o = some a) : Wp (lift o S) P = P a S := by rw [h]; exact wp_ok
theorem wp_look {x : RV} {d : D} {P : D → St → Prop} (h : x.look S = some d) : Wp (look1 x S) P = P d S := wp_lift h
theorem wp_looks {as : List RV} {ds : List D} {P : List D → St → Prop} (h : looks S as = some ds) : Wp (lookAll as S) P = P ds S := wp_lift h
theorem ok_of_wp {r : Res α} {a : α} (h : Wp r fun b S' => b = a ∧ S' = S) : r = .ok a S := by
  cases h with
  | ok h =>
    obtain ⟨rfl, rfl⟩ := h
    rfl
theorem go_ok {a : α} {S' : St} {f : α → M β} (h : m S = .ok a S') : bnd m f S = f a S' := by
  unfold bnd
  rw [h]
theorem looks1 {x : RV} {d : D} (h : x.look S = some d) : looks S [x] = some [d] := by
  simp [looks, h]
theorem looks2 {x y : RV} {d e : D} (h : x.look S = some d) (g : y.look S = some e) : looks S [x, y] = some [d, e] := by
  simp [looks, h, g]
end
/-! ### a def's call -/
/-- what a call leaves: the caller's cells as they are now, a value that is no cell of the call's own -/
def Leaves (S : St) (v : RV) (S' : St) (w : RV) : Prop := S'.esc = [] ∧ ((∃ d, v = dv d ∧ w = dv d) ∨ (∃ ds, v = .tmp (.lst ds) ∧ w = tmpL ds) ∨ ∃ i ds, v = .v (.r i) ∧ S.cells.length ≤ i ∧ S'.cells[i]? = some (.lst ds) ∧ w = tmpL ds)
theorem leaves_ok {S S' : St} {v w : RV} (h : Leaves S v S' w) : leave S.cells.length S.esc v S' = .ok w ⟨S'.cells.take S.cells.length, S.esc⟩ := by
  obtain ⟨he, h⟩ := h
  unfold leave
  rw [he]
  rcases h with ⟨d, rfl, rfl⟩ | ⟨ds, rfl, rfl⟩ | ⟨i, ds, rfl, hi, hc, rfl⟩
  · rfl
  · rfl
  · simp only [List.all_nil, if_true]
    rw [if_neg (by omega), hc]
    rfl
/-- the body's run, from the arguments on -/
noncomputable def bodyRun (T : Tx) (df : Def) (as : List RV) : M RV := bnd (binds df.params as) fun xs => bnd (evB T df.body (xs.map some ++ List.replicate (df.slots - xs.length) none)) fun p => match p with
    | (.nx, _) => ret (dv .non)
    | (.ret v, _) => ret v
    | _ => fail
theorem callDef_eq (T : Tx) (df : Def) (as : List RV) (S : St) : callDef T df as S = match bodyRun T df as ⟨S.cells, []⟩ with
    | .ok v S' => leave S.cells.length S.esc v S'
    | .exc e S' => .exc e ⟨S'.cells, S'.esc ++ S.esc⟩
    | .err => .err := rfl
theorem wp_def {T : Tx} {df : Def} {as : List RV} {S : St} {P : RV → St → Prop} (h : Wp (bodyRun T df as ⟨S.cells, []⟩) fun v S' => ∃ w, Leaves S v S' w ∧ P w ⟨S'.cells.take S.cells.length, S.esc⟩) : Wp (callDef T df as S) P := by
  rw [callDef_eq]
  cases e : bodyRun T df as ⟨S.cells, []⟩ with
  | ok v S' =>
    rw [e] at h
    obtain ⟨w, l, q⟩ := h.out
    show Wp (leave S.cells.length S.esc v S') P
    rw [leaves_ok l]
    exact .ok q
  | exc x S' => rw [e] at h; exact h.exc.elim
  | err => rw [e] at h; exact h.err.elim
/-- a call that leaves all as it was -/
theorem def_pure {T : Tx} {df : Def} {as : List RV} {S : St} {w : RV} (h : Wp (bodyRun T df as ⟨S.cells, []⟩) fun v S' => Leaves S v S' w ∧ S'.cells.take S.cells.length = S.cells) : callDef T df as S = .ok w S := by
  refine ok_of_wp (wp_def (wp_mono h fun v S' ⟨l, e⟩ => ⟨w, l, rfl, ?_⟩))
  rw [e]
theorem at_call (X : Txt) {n : Nat} {id : FId} {df : Def} (h : X.defs id = some df) (as : List RV) : (X.at (n + 1)).call id as = callDef (X.at n) df as := by
  show (match X.defs id with
    | some df => callDef (X.at n) df as
    | none => fail) = _
  rw [h]
/-! ### comprehensions -/
/-- a turn that changes nothing but the list -/
theorem putC_ok {C : List MObj} {acc : List D} {e : List Nat} {y : D} (hl : acc.length < line) : putC C.length (some y) ⟨C ++ [.lst acc], e⟩ = .ok () ⟨C ++ [.lst (acc ++ [y])], e⟩ := by
  unfold putC
  simp [hl]
theorem comp_row {step : D → M (Option D)} {f : D → Option D} (ds : List D) (C : List MObj) (e : List Nat) : ∀ acc : List D, (∀ x ∈ ds, ∀ acc : List D, step x ⟨C ++ [.lst acc], e⟩ = .ok (f x) ⟨C ++ [.lst acc], e⟩) → acc.length + ds.length ≤ line →
    compRow step C.length ds ⟨C ++ [.lst acc], e⟩ = .ok () ⟨C ++ [.lst (acc ++ ds.filterMap f)], e⟩ := by
  induction ds with
  | nil => intro acc _ _; simp [compRow, ret]
  | cons x r ih =>
    intro acc h hl
    unfold compRow
    rw [go_ok (h x List.mem_cons_self acc)]
    rw [List.length_cons] at hl
    cases c : f x with
    | none =>
      rw [List.filterMap_cons_none c]
      exact ih acc (fun y m => h y (List.mem_cons_of_mem _ m)) (by omega)
    | some y =>
      rw [go_ok (putC_ok (by omega)), ih (acc ++ [y]) (fun z m => h z (List.mem_cons_of_mem _ m)) (by rw [List.length_append, List.length_singleton]; omega), List.filterMap_cons_some c]
      simp
theorem comp_cell {step : D → M (Option D)} {f : D → Option D} {i : Nat} {ds : List D} (C : List MObj) (e : List Nat) (hi : C[i]? = some (.lst ds)) (h : ∀ x ∈ ds, ∀ acc : List D, step x ⟨C ++ [.lst acc], e⟩ = .ok (f x) ⟨C ++ [.lst acc], e⟩) : ∀ (m k : Nat) (acc : List D), k ≤ ds.length → ds.length - k < m → acc.length + ds.length ≤ line + k →
    compCell step C.length i m k ⟨C ++ [.lst acc], e⟩ = .ok () ⟨C ++ [.lst (acc ++ (ds.drop k).filterMap f)], e⟩ := by
  have at_ : ∀ (acc : List D) (k : Nat), cellAt i k ⟨C ++ [.lst acc], e⟩ = .ok ds[k]? ⟨C ++ [.lst acc], e⟩ := fun acc k => by
    unfold cellAt
    have lt : i < C.length := (List.getElem?_eq_some_iff.mp hi).1
    rw [show (C ++ [.lst acc])[i]? = C[i]? from List.getElem?_append_left lt, hi]
  intro m
  induction m with
  | zero => intro k acc _ hm _; omega
  | succ m ih =>
    intro k acc hk hm hl
    unfold compCell
    rw [go_ok (at_ acc k)]
    rcases Nat.lt_or_ge k ds.length with lt | ge
    · rw [List.getElem?_eq_getElem lt, List.drop_eq_getElem_cons lt]
      show bnd (step ds[k]) _ _ = _
      rw [go_ok (h _ (List.getElem_mem lt) acc)]
      cases c : f ds[k] with
      | none =>
        rw [List.filterMap_cons_none c]
        exact ih (k + 1) acc lt (by omega) (by omega)
      | some y =>
        rw [go_ok (putC_ok (by omega)), ih (k + 1) (acc ++ [y]) lt (by omega) (by rw [List.length_append, List.length_singleton]; omega), List.filterMap_cons_some c]
        simp
    · rw [List.getElem?_eq_none ge]
      have : ds.drop k = [] := List.drop_eq_nil_of_le ge
      rw [this]
      simp [ret]
theorem compEnd_ok {C : List MObj} {e : List Nat} {acc : List D} : compEnd C.length e.length ⟨C ++ [.lst acc], e⟩ = .ok (tmpL acc) ⟨C, e⟩ := by
  unfold compEnd
  simp
theorem compNew_eq (g : Nat → M Unit) (S : St) : compNew g S = match g S.cells.length ⟨S.cells ++ [.lst []], S.esc⟩ with
    | .ok _ S' => compEnd S.cells.length S.esc.length S'
    | _ => .err := rfl
/-- a comprehension over data whose turns change nothing -/
theorem comp_pure {step : D → M (Option D)} {f : D → Option D} {ds : List D} {S : St} (h : ∀ x ∈ ds, ∀ acc : List D, step x ⟨S.cells ++ [.lst acc], S.esc⟩ = .ok (f x) ⟨S.cells ++ [.lst acc], S.esc⟩) (hl : ds.length ≤ line) :
    compNew (fun n => compWalk step n (.row ds)) S = .ok (tmpL (ds.filterMap f)) S := by
  have := comp_row ds S.cells S.esc [] h (by simpa using hl)
  rw [compNew_eq, show compWalk step S.cells.length (.row ds) ⟨S.cells ++ [.lst []], S.esc⟩ = _ from this]
  show compEnd _ _ _ = _
  rw [List.nil_append, compEnd_ok]
theorem comp_pureC {step : D → M (Option D)} {f : D → Option D} {i : Nat} {ds : List D} {S : St} (hi : S.cells[i]? = some (.lst ds)) (h : ∀ x ∈ ds, ∀ acc : List D, step x ⟨S.cells ++ [.lst acc], S.esc⟩ = .ok (f x) ⟨S.cells ++ [.lst acc], S.esc⟩) (hl : ds.length < turns) :
    compNew (fun n => compWalk step n (.cell i)) S = .ok (tmpL (ds.filterMap f)) S := by
  have := comp_cell S.cells S.esc hi h turns 0 [] (Nat.zero_le _) (by simpa using hl) (by unfold turns at hl; unfold line; simp; omega)
  rw [compNew_eq, show compWalk step S.cells.length (.cell i) ⟨S.cells ++ [.lst []], S.esc⟩ = _ from this]
  show compEnd _ _ _ = _
  rw [List.nil_append, List.drop_zero, compEnd_ok]
/-- a comprehension whose turns keep an invariant: J of the turns done, of what is gathered and of what lies outside -/
theorem comp_inv {step : D → M (Option D)} {J : Nat → List D → St → Prop} {N : Nat} (ds : List D) : ∀ (i : Nat) (acc : List D) (S : St), S.cells.length = N → J i acc S → acc.length + ds.length ≤ line →
    (∀ x ∈ ds, ∀ i acc S1, S1.cells.length = N → J i acc S1 → Wp (step x ⟨S1.cells ++ [.lst acc], S1.esc⟩) fun o S2 => ∃ S3 : St, S3.cells.length = N ∧ S2 = ⟨S3.cells ++ [.lst acc], S3.esc⟩ ∧ S3.esc = S1.esc ∧ J (i + 1) (acc ++ o.toList) S3) →
    ∃ (acc' : List D) (S' : St), compRow step N ds ⟨S.cells ++ [.lst acc], S.esc⟩ = .ok () ⟨S'.cells ++ [.lst acc'], S'.esc⟩ ∧ S'.cells.length = N ∧ S'.esc = S.esc ∧ J (i + ds.length) acc' S' := by
  induction ds with
  | nil => exact fun i acc S hN hJ _ _ => ⟨acc, S, rfl, hN, rfl, hJ⟩
  | cons x r ih =>
    intro i acc S hN hJ hl h
    rw [List.length_cons] at hl
    have h1 := h x List.mem_cons_self i acc S hN hJ
    unfold compRow
    cases e : step x ⟨S.cells ++ [.lst acc], S.esc⟩ with
    | ok o S2 =>
      rw [e] at h1
      obtain ⟨S3, n3, rfl, e3, j3⟩ := h1.out
      rw [go_ok e]
      have more := fun y m => h y (List.mem_cons_of_mem _ m)
      cases o with
      | none =>
        obtain ⟨acc', S', r1, r2, r3, r4⟩ := ih (i + 1) acc S3 n3 (by simpa using j3) (by omega) more
        exact ⟨acc', S', r1, r2, r3.trans e3, by rw [List.length_cons, show i + (r.length + 1) = i + 1 + r.length by omega]; exact r4⟩
      | some y =>
        obtain ⟨acc', S', r1, r2, r3, r4⟩ := ih (i + 1) (acc ++ [y]) S3 n3 j3 (by rw [List.length_append, List.length_singleton]; omega) more
        refine ⟨acc', S', ?_, r2, r3.trans e3, by rw [List.length_cons, show i + (r.length + 1) = i + 1 + r.length by omega]; exact r4⟩
        rw [← n3, go_ok (putC_ok (by omega)), n3]
        exact r1
    | exc x S2 => rw [e] at h1; exact h1.exc.elim
    | err => rw [e] at h1; exact h1.err.elim
theorem comp_wp {step : D → M (Option D)} {J : Nat → List D → St → Prop} {ds : List D} {S : St} {P : RV → St → Prop} (hJ : J 0 [] S) (hl : ds.length ≤ line)
    (h : ∀ x ∈ ds, ∀ i acc S1, S1.cells.length = S.cells.length → J i acc S1 → Wp (step x ⟨S1.cells ++ [.lst acc], S1.esc⟩) fun o S2 => ∃ S3 : St, S3.cells.length = S.cells.length ∧ S2 = ⟨S3.cells ++ [.lst acc], S3.esc⟩ ∧ S3.esc = S1.esc ∧ J (i + 1) (acc ++ o.toList) S3)
    (q : ∀ acc S', S'.cells.length = S.cells.length → S'.esc = S.esc → J ds.length acc S' → P (tmpL acc) S') : Wp (compNew (fun n => compWalk step n (.row ds)) S) P := by
  obtain ⟨acc', S', r1, r2, r3, r4⟩ := comp_inv ds 0 [] S rfl hJ (by simpa using hl) h
  rw [compNew_eq, show compWalk step S.cells.length (.row ds) ⟨S.cells ++ [.lst []], S.esc⟩ = _ from r1]
  show Wp (compEnd _ _ _) P
  rw [← r2, ← r3, compEnd_ok]
  exact .ok <| q acc' S' r2 r3 (by rw [Nat.zero_add] at r4; exact r4)
/-! ### rows for stepping -/
section
variable {S : St} {x y : D} {o : MObj} {ds es : List D}
theorem w_lift {α : Type} (a : α) : lift (some a) = ret a := rfl
theorem w_bndr {α β : Type} (a : α) (f : α → M β) : bnd (ret a) f = f a := rfl
theorem w_look : RV.look S (.v (.d x)) = some x := rfl
theorem w_lookT : RV.look S (.tmp o) = o.toD := rfl
theorem w_lookR {i : Nat} (h : S.cells[i]? = some o) : RV.look S (.v (.r i)) = o.toD := by
  show (match S.cells[i]? with
    | some o => o.toD
    | none => none) = _
  rw [h]
theorem w_toD : RV.toD (.v (.d x)) = some x := rfl
theorem w_toDT : RV.toD (.tmp o) = o.toD := rfl
theorem w_lst : MObj.toD (.lst ds) = some (.lst ds) := rfl
theorem w_frz {v : Val} : RV.frz (.v v) = some v := rfl
theorem w_frzT : RV.frz (.tmp (.lst ds)) = some (.d (.lst ds)) := rfl
theorem w_tr1 {b : Bool} : truth (.bl b) = some b := rfl
theorem w_tr2 : truth .non = some false := rfl
theorem w_tr3 {i : Int} : truth (.int i) = some (i != 0) := rfl
theorem w_cl1 {b : Bool} : clsOf S (.v (.d (.bl b))) = none := rfl
theorem w_cl2 {i : Int} : clsOf S (.v (.d (.int i))) = none := rfl
theorem w_cl3 {s : Str} : clsOf S (.v (.d (.str s))) = none := rfl
theorem w_cl4 : clsOf S (.v (.d (.tup ds))) = none := rfl
theorem w_cl5 : clsOf S (.v (.d (.lst ds))) = none := rfl
theorem w_cl6 : clsOf S (.v (.d .non)) = none := rfl
theorem w_cl7 {c : Nat} {fs : List (Nat × D)} : clsOf S (.v (.d (.ins c fs))) = some c := rfl
theorem w_cl8 : clsOf S (.tmp (.lst ds)) = none := rfl
theorem w_clR {i : Nat} (h : S.cells[i]? = some (.lst ds)) : clsOf S (.v (.r i)) = none := by
  show (match S.cells[i]? with
    | some (.ins c _) => some c
    | _ => none) = _
  rw [h]
theorem w_looks0 : looks S [] = some [] := rfl
theorem w_looks {a : RV} {r : List RV} (h : a.look S = some x) (g : looks S r = some ds) : looks S (a :: r) = some (x :: ds) := by
  show (match a.look S, looks S r with
    | some x, some xs => some (x :: xs)
    | _, _ => none) = _
  rw [h, g]
theorem w_dats0 : dats [] = some [] := rfl
theorem w_dats {a : RV} {r : List RV} (h : a.toD = some x) (g : dats r = some ds) : dats (a :: r) = some (x :: ds) := by
  show (match a.toD, dats r with
    | some x, some xs => some (x :: xs)
    | _, _ => none) = _
  rw [h, g]
theorem w_lt {a b : RV} : cmpV .Lt a b S = lift ((looks S [a, b]).bind fun ds => match ds with
      | [x, y] => (cmpD .Lt x y).map bv
      | _ => none) S := rfl
theorem w_le {a b : RV} : cmpV .LtE a b S = lift ((looks S [a, b]).bind fun ds => match ds with
      | [x, y] => (cmpD .LtE x y).map bv
      | _ => none) S := rfl
theorem w_gt {a b : RV} : cmpV .Gt a b S = lift ((looks S [a, b]).bind fun ds => match ds with
      | [x, y] => (cmpD .Gt x y).map bv
      | _ => none) S := rfl
theorem w_ge {a b : RV} : cmpV .GtE a b S = lift ((looks S [a, b]).bind fun ds => match ds with
      | [x, y] => (cmpD .GtE x y).map bv
      | _ => none) S := rfl
theorem w_in {a b : RV} : cmpV .In a b S = lift ((looks S [a, b]).bind fun ds => match ds with
      | [x, y] => (cmpD .In x y).map bv
      | _ => none) S := rfl
theorem w_ni {a b : RV} : cmpV .NotIn a b S = lift ((looks S [a, b]).bind fun ds => match ds with
      | [x, y] => (cmpD .NotIn x y).map bv
      | _ => none) S := rfl
theorem w_eq {a b : RV} : cmpV .Eq a b = eqV a b := rfl
theorem w_ne {a b : RV} : cmpV .NotEq a b = bnd (eqV a b) notV := rfl
theorem w_is {a b : RV} : cmpV .Is a b S = if noneD (b.look S) = true then .ok (bv a.isNon) S else .err := rfl
theorem w_isn {a b : RV} : cmpV .IsNot a b S = if noneD (b.look S) = true then .ok (bv (!a.isNon)) S else .err := rfl
theorem w_not {b : Bool} : notV (.v (.d (.bl b))) = ret (bv (!b)) := by
  funext S
  rfl
theorem eq_ok {a b : RV} {k : Bool} (h1 : clsOf S a = none) (h2 : clsOf S b = none) (h3 : a.look S = some x) (h4 : b.look S = some y) (h5 : eqD x y = some k) : eqV a b S = .ok (bv k) S := by
  unfold eqV
  rw [h1, h2]
  show lift ((looks S [a, b]).bind _) S = _
  rw [looks2 h3 h4]
  show lift ((eqD x y).map bv) S = _
  rw [h5]
  rfl
theorem cm_lt {i j : Int} : cmpD .Lt (.int i) (.int j) = some (decide (i < j)) := rfl
theorem cm_le {i j : Int} : cmpD .LtE (.int i) (.int j) = some (decide (i ≤ j)) := rfl
theorem cm_gt {i j : Int} : cmpD .Gt (.int i) (.int j) = some (decide (j < i)) := rfl
theorem cm_ge {i j : Int} : cmpD .GtE (.int i) (.int j) = some (decide (j ≤ i)) := rfl
theorem cm_ltS {s t : Str} : cmpD .Lt (.str s) (.str t) = some (decide (s.cps.toList < t.cps.toList)) := rfl
theorem cm_inS {s t : Str} : cmpD .In (.str s) (.str t) = some (strIn s t) := rfl
theorem bf_lenS {s : Str} : bfD .len [.str s] = if s.length ≤ line then some (iv s.length) else none := rfl
theorem bf_lenL : bfD .len [.lst ds] = some (iv ds.length) := rfl
theorem bf_lenT : bfD .len [.tup ds] = some (iv ds.length) := rfl
theorem bf_all : bfD .all [.lst ds] = (boolsOf ds).map fun bs => bv (bs.all id) := rfl
theorem bf_any : bfD .any [.lst ds] = (boolsOf ds).map fun bs => bv (bs.any id) := rfl
end
theorem eqInt (i j : Int) : eqD (.int i) (.int j) = some (decide (i = j)) := by
  show eqF _ _ = _
  unfold eqF
  rw [if_pos ⟨rfl, rfl⟩]
  show some (i == j) = _
  rfl
theorem eqStr (s t : Str) : eqD (.str s) (.str t) = some (decide (s = t)) := rfl
theorem bools_map {α : Type} (f : α → Bool) : ∀ l : List α, boolsOf (l.map fun x => .bl (f x)) = some (l.map f)
  | [] => rfl
  | x :: r => by
    show (boolsOf (r.map fun x => .bl (f x))).map (f x :: ·) = _
    rw [bools_map f r]
    rfl
theorem fm_some {α β : Type} (f : α → β) (l : List α) : l.filterMap (fun x => some (f x)) = l.map f := by
  induction l with
  | nil => rfl
  | cons x r ih => simp [ih]
section
variable {S : St} {ds : List D}
theorem wk_str {s : Str} : walkOf S (.v (.d (.str s))) = some (.row (signs s)) := rfl
theorem wk_lst : walkOf S (.v (.d (.lst ds))) = some (.row ds) := rfl
theorem wk_tup : walkOf S (.v (.d (.tup ds))) = some (.row ds) := rfl
theorem wk_tmp : walkOf S (.tmp (.lst ds)) = some (.row ds) := rfl
theorem wk_cell {i : Nat} (h : S.cells[i]? = some (.lst ds)) : walkOf S (.v (.r i)) = some (.cell i) := by
  show (match S.cells[i]? with
    | some (.lst _) => some (Walk.cell i)
    | _ => none) = _
  rw [h]
theorem tg_v {i : Nat} {x : D} {ρ : Env} : setTg (.v i) x ρ = if i < ρ.length then some (ρ.set i (some (.d x))) else none := by rw [setTg]
theorem tg_2 {i j : Nat} {x y : D} {ρ : Env} : setTg (.tup [.v i, .v j]) (.tup [x, y]) ρ = (setTg (.v i) x ρ).bind fun ρ' => setTg (.v j) y ρ' := by
  by_cases c : i < ρ.length
  · simp only [setTg, setTgL, if_pos c, Option.bind_some]
    by_cases c2 : j < (ρ.set i (some (.d x))).length
    · simp only [if_pos c2]
    · simp only [if_neg c2]
  · simp only [setTg, setTgL, if_neg c, Option.bind_none]
theorem wi0 {ρ : Env} : wipeE ρ [] = ρ := rfl
theorem wi1 {ρ : Env} {v : Nat} {vs : List Nat} : wipeE ρ (v :: vs) = (wipeE ρ vs).set v none := rfl
theorem yes_all {α : Type} (l : List α) : boolsOf (l.map fun _ => D.bl true) = some (l.map fun _ => true) := bools_map (fun _ => true) l
theorem leaves_d {S S' : St} {d : D} (h : S'.esc = []) : Leaves S (.v (.d d)) S' (.v (.d d)) := ⟨h, .inl ⟨d, rfl, rfl⟩⟩
theorem leaves_t {S S' : St} (h : S'.esc = []) : Leaves S (.tmp (.lst ds)) S' (tmpL ds) := ⟨h, .inr (.inl ⟨ds, rfl, rfl⟩)⟩
end
theorem w_looksT {S : St} {ds : List D} : looks S [.tmp (.lst ds)] = some [.lst ds] := looks1 rfl
theorem all_yes {α : Type} (l : List α) : (l.map fun _ => true).all id = true := by
  induction l with
  | nil => rfl
  | cons x r ih => simpa using ih
theorem all_map {α : Type} (f : α → Bool) (l : List α) : (l.map f).all id = l.all f := by
  induction l with
  | nil => rfl
  | cons x r ih => simp [ih]
theorem any_map {α : Type} (f : α → Bool) (l : List α) : (l.map f).any id = l.any f := by
  induction l with
  | nil => rfl
  | cons x r ih => simp [ih]
theorem cut_1 {α : Type} (xs : List α) : cut xs (some 1) none = xs.drop 1 := by
  unfold cut endOf
  cases xs with
  | nil => rfl
  | cons x r =>
    show List.take _ (List.drop (min 1 (r.length + 1)) (x :: r)) = r
    rw [show min 1 (r.length + 1) = 1 by omega]
    simp
theorem slc_T {ds : List D} {lo hi : Option Int} : slcO (.tup ds) lo hi = some (.v (.d (.tup (cut ds lo hi)))) := rfl
theorem pr_no {v : RV} : partR false v = some none := rfl
theorem pr_int {i : Int} : partR true (.v (.d (.int i))) = some (some i) := rfl
theorem zipT {x y : List D} : zipO (.tup x) (.tup y) = some (zipD x y) := rfl
theorem all_true {α : Type} (l : List α) : (l.all fun _ => true) = true := by
  induction l with
  | nil => rfl
  | cons x r ih => simp
theorem any_false {α : Type} (l : List α) : (l.any fun _ => false) = false := by
  induction l with
  | nil => rfl
  | cons x r ih => simp
theorem has_at {X : Txt} {id : FId} {df : Def} (h : X.defs id = some df) (n : Nat) : (X.at (n + 1)).has id = true := by
  show (X.defs id).isSome = true
  rw [h]
  rfl
theorem pl0 {as : List RV} : place [] as = as := List.append_nil as
theorem pl1 {as : List RV} : place [.non] as = as ++ [dv .non] := rfl
section
variable {x y z : D} {ds : List D} {i : Int}
theorem gt_T : getD (.tup ds) (.int i) = atD ds i := rfl
theorem gt_L : getD (.lst ds) (.int i) = atD ds i := rfl
theorem at_0 : atD (x :: ds) 0 = some x := rfl
theorem at_1 : atD (x :: y :: ds) 1 = some y := rfl
theorem bf_tupL : bfD .tuple [.lst ds] = some (dv (.tup ds)) := rfl
theorem bf_lstT : bfD .list [.tup ds] = some (tmpL ds) := rfl
end
/-! ### orders -/
theorem le_total' : W.TotalLe (W.dataLe false D.pd) := W.sortLe_total (PyProof.Rows.listOrd PyProof.Rows.itemOrd) false fun d : D => W.keyToks d.pd
theorem le_anti {es : List D} (hk : ∀ x ∈ es, x.key = true) (al : W.AllAlike (es.map D.pd)) {a b : D} (ma : a ∈ es) (mb : b ∈ es) (h1 : W.dataLe false D.pd a b = true) (h2 : W.dataLe false D.pd b a = true) : a = b := by
  have g1 : (!PyProof.Rows.lexLt PyProof.Rows.itemOrd (W.keyToks b.pd) (W.keyToks a.pd)) = true := h1
  have g2 : (!PyProof.Rows.lexLt PyProof.Rows.itemOrd (W.keyToks a.pd) (W.keyToks b.pd)) = true := h2
  rw [Bool.not_eq_true'] at g1 g2
  exact toks_key (hk a ma) (hk b mb) (al _ (List.mem_map.mpr ⟨a, ma, rfl⟩) _ (List.mem_map.mpr ⟨b, mb, rfl⟩)) ((PyProof.Rows.listOrd PyProof.Rows.itemOrd).total _ _ g2 g1)
/-- rows filtered before or behind they are put in order -/
theorem sort_filter {es : List D} (p : D → Bool) (hk : ∀ x ∈ es, x.key = true) (al : W.AllAlike (es.map D.pd)) : (es.filter p).mergeSort (W.dataLe false D.pd) = (es.mergeSort (W.dataLe false D.pd)).filter p := by
  have perm : ((es.filter p).mergeSort (W.dataLe false D.pd)).Perm ((es.mergeSort (W.dataLe false D.pd)).filter p) := (List.mergeSort_perm _ _).trans ((List.mergeSort_perm es _).symm.filter p)
  refine List.Perm.eq_of_pairwise (le := fun a b => W.dataLe false D.pd a b = true) ?_ (W.sort_pairwise le_total' _) ((W.sort_pairwise le_total' es).filter p) perm
  intro a b ha hb h1 h2
  have ma : a ∈ es := (List.mem_filter.mp ((List.mergeSort_perm _ _).mem_iff.mp ha)).1
  have mb : b ∈ es := (List.mergeSort_perm es _).mem_iff.mp (List.mem_filter.mp hb).1
  exact le_anti hk al ma mb h1 h2
theorem st_v {i : Nat} {x : Val} {ρ : Env} : setV i x ρ = if i < ρ.length then some (ρ.set i (some x)) else none := rfl
section
variable {S : St} {x y z : D} {ds es : List D}
theorem lk_dt : looks S [.v (.d x), .tmp (.lst ds)] = some [x, .lst ds] := looks2 rfl rfl
theorem lk_td : looks S [.tmp (.lst ds), .v (.d x)] = some [.lst ds, x] := looks2 rfl rfl
theorem lk_tt : looks S [.tmp (.lst ds), .tmp (.lst es)] = some [.lst ds, .lst es] := looks2 rfl rfl
theorem dt_1 : dats [.v (.d x)] = some [x] := rfl
theorem dt_2 : dats [.v (.d x), .v (.d y)] = some [x, y] := rfl
theorem dt_t1 : dats [.tmp (.lst ds)] = some [.lst ds] := rfl
theorem dt_0 : dats [] = some [] := rfl
theorem nn_d : noneD (some .non) = true := rfl
theorem in_non : RV.isNon (.v (.d .non)) = true := rfl
theorem in_tup : RV.isNon (.v (.d (.tup ds))) = false := rfl
theorem in_lst : RV.isNon (.v (.d (.lst ds))) = false := rfl
theorem cm_inTL : cmpD .In (.tup ds) (.lst es) = inD (.tup ds) es := rfl
theorem cm_niTL : cmpD .NotIn (.tup ds) (.lst es) = (inD (.tup ds) es).map (!·) := rfl
theorem at_ins {c f : Nat} {fs : List (Nat × D)} : attrOf S f (.v (.d (.ins c fs))) = (fs.lookup f).map .d := rfl
theorem lk_hd {k : Nat} {r : List (Nat × D)} : List.lookup k ((k, x) :: r) = some x := by
  simp [List.lookup]
end
theorem leaves_u {S S' : St} {ds : List D} (h : S'.esc = []) : Leaves S (.tmp (.lst ds)) S' (.tmp (.lst ds)) := ⟨h, .inr (.inl ⟨ds, rfl, rfl⟩)⟩
/-! ### loops -/
theorem for_inv {α : Type} {step : D → Env → M (Option α × Env)} {J : List D → Env → St → Prop} {P : Option α × Env → St → Prop} (ds : List D) (hs : ∀ done x rest, ds = done ++ x :: rest → ∀ ρ S, J done ρ S → Wp (step x ρ S) fun p S' => p.1 = none ∧ J (done ++ [x]) p.2 S')
    (q : ∀ ρ S, J ds ρ S → P (none, ρ) S) : ∀ (rest done : List D), ds = done ++ rest → ∀ ρ S, J done ρ S → Wp (forRow step rest ρ S) P := by
  intro rest
  induction rest with
  | nil =>
    intro done e ρ S hJ
    rw [List.append_nil] at e
    subst e
    exact .ok (q ρ S hJ)
  | cons x r ih =>
    intro done e ρ S hJ
    unfold forRow
    rw [wp_bnd]
    refine wp_mono (hs done x r e ρ S hJ) fun p S' ⟨h1, h2⟩ => ?_
    obtain ⟨a, ρ'⟩ := p
    dsimp only at h1 h2
    subst h1
    exact ih (done ++ [x]) (by rw [e, List.append_assoc]; rfl) ρ' S' h2
theorem for_row {α : Type} {step : D → Env → M (Option α × Env)} (J : List D → Env → St → Prop) {P : Option α × Env → St → Prop} {ds : List D} {ρ : Env} {S : St} (h0 : J [] ρ S) (hs : ∀ done x rest, ds = done ++ x :: rest → ∀ ρ S, J done ρ S → Wp (step x ρ S) fun p S' => p.1 = none ∧ J (done ++ [x]) p.2 S')
    (q : ∀ ρ S, J ds ρ S → P (none, ρ) S) : Wp (forWalk step (.row ds) ρ S) P := for_inv ds hs q ds [] rfl ρ S h0
section
variable {C : List MObj} {o o' : MObj} {e : List Nat} {ds : List D} {x : D} {S : St}
theorem last_get : (C ++ [o])[C.length]? = some o := by simp
theorem last_set : (C ++ [o]).set C.length o' = C ++ [o'] := by simp
theorem left_get {i : Nat} (h : C[i]? = some o) (D' : List MObj) : (C ++ D')[i]? = some o := by
  have lt : i < C.length := (List.getElem?_eq_some_iff.mp h).1
  rw [List.getElem?_append_left lt]
  exact h
theorem left_set {i : Nat} (h : i < C.length) (D' : List MObj) : (C ++ D').set i o' = C.set i o' ++ D' := by
  rw [List.set_append, if_pos h]
theorem bk_R {i : Nat} (h : S.cells[i]? = some (.lst ds)) : bkOf S (.v (.r i)) = some .lst := by
  unfold bkOf
  simp [h]
theorem bm_append {i : Nat} (h : S.cells[i]? = some (.lst ds)) (hl : ds.length < line) : callBm .append (.v (.r i)) [.v (.d x)] S = .ok (.v (.d .non)) { S with cells := S.cells.set i (.lst (ds ++ [x])) } := by
  unfold callBm
  simp only [h]
  show (match (some [x]).bind (bmO .append (.lst ds)) with
    | some p => _
    | none => _) = _
  show (match (if ds.length < line then some (MObj.lst (ds ++ [x]), D.non) else none) with
    | some p => _
    | none => _) = _
  rw [if_pos hl]
  rfl
theorem bo_la : bmOk .lst .append = true := rfl
end
theorem firsts_snoc (x : D) : ∀ (ds acc : List D), firsts acc (ds ++ [x]) = if ((firsts acc ds).any fun y => PyData.eqv y.pd x.pd) = true then firsts acc ds else firsts acc ds ++ [x]
  | [], acc => by
    rw [List.nil_append]
    unfold firsts firsts
    rfl
  | y :: r, acc => by
    rw [List.cons_append]
    conv => lhs; unfold firsts
    conv => rhs; unfold firsts
    split
    · exact firsts_snoc x r acc
    · exact firsts_snoc x r _
theorem lk_R {S : St} {i : Nat} {ds : List D} (h : S.cells[i]? = some (.lst ds)) : RV.look S (.v (.r i)) = some (.lst ds) := (w_lookR h).trans rfl
theorem lay_t {o : MObj} {S : St} : lay true (.tmp o) S = .ok (.r S.cells.length) { S with cells := S.cells ++ [o] } := rfl
theorem mid_mem {α : Type} {ds done rest : List α} {x : α} (e : ds = done ++ x :: rest) : x ∈ ds := by
  rw [e]
  exact List.mem_append_right _ List.mem_cons_self
theorem range1 {n : Int} (h : smallI n) : rangeOf [.int n] = some (rangeD 0 n.toNat) := if_pos h
/-! ### numbers -/
section
variable {i j : Int} {S : St} {k : Nat} {a b x : D}
theorem ar_add : binD .Add (.int i) (.int j) = some (.v (.d (.int (i + j)))) := rfl
theorem ar_sub : binD .Sub (.int i) (.int j) = some (.v (.d (.int (i - j)))) := rfl
theorem ar_mod (h : 0 < j) : binD .Mod (.int i) (.int j) = some (.v (.d (.int (i % j)))) := if_pos h
theorem ar_div (h : 0 < j ∧ j < 1073741824) : binD .FloorDiv (.int i) (.int j) = some (.v (.d (.int (i / j)))) := if_pos h
theorem ar_mul (h : i.natAbs < 2 ^ 63 ∨ j.natAbs < 2 ^ 63) : binD .Mult (.int i) (.int j) = some (.v (.d (.int (i * j)))) := if_pos h
theorem ar_pow (h : 0 ≤ j ∧ j ≤ 1000000 ∧ i.natAbs < 2 ^ 63) : binD .Pow (.int i) (.int j) = some (.v (.d (.int (i ^ j.toNat)))) := if_pos h
theorem bf_dm (h : 0 < j ∧ j < 1073741824) : bfD .divmod [.int i, .int j] = some (.v (.d (.tup [.int (i / j), .int (i % j)]))) := if_pos h
theorem bf_mx : bfD .max [.int i, .int j] = some (.v (.d (.int (if j > i then j else i)))) := rfl
theorem bf_ib {c : Bool} : bfD .int [.bl c] = some (.v (.d (.int (if c then 1 else 0)))) := rfl
theorem put_0 (h : S.cells[k]? = some (.lst [a, b])) : putItem (.v (.r k)) (.v (.d (.int 0))) (.v (.d x)) S = .ok () { S with cells := S.cells.set k (.lst [x, b]) } := by
  unfold putItem
  simp only [w_look, w_toD, h]
  rfl
theorem lay_r {c : Bool} {v : Val} : lay c (.v v) = lift (some v) := by cases c <;> rfl
end
/-- a list [x, y] of the caller's, the pen -/
def HasPen (k : Nat) (S : St) : Prop := ∃ x y : Int, 0 ≤ x ∧ S.cells[k]? = some (.lst [.int x, .int y])
structure PenS (k : Nat) (S S' : St) : Prop where
  esc : S'.esc = S.esc
  ex : ∃ x y : Int, 0 ≤ x ∧ S'.cells = S.cells.set k (.lst [.int x, .int y])
theorem HasPen.lt {k : Nat} {S : St} (h : HasPen k S) : k < S.cells.length := by
  obtain ⟨x, y, _, e⟩ := h
  exact (List.getElem?_eq_some_iff.mp e).1
theorem PenS.refl {k : Nat} {S : St} (h : HasPen k S) : PenS k S S := by
  obtain ⟨x, y, h0, e⟩ := h
  refine ⟨rfl, x, y, h0, ?_⟩
  obtain ⟨lt, e⟩ := List.getElem?_eq_some_iff.mp e
  rw [← e, List.set_getElem_self]
theorem PenS.has {k : Nat} {S S' : St} (p : PenS k S S') (h : HasPen k S) : HasPen k S' := by
  obtain ⟨x, y, h0, e⟩ := p.ex
  exact ⟨x, y, h0, by rw [e, List.getElem?_set_self h.lt]⟩
theorem PenS.trans {k : Nat} {S S' S'' : St} (p : PenS k S S') (q : PenS k S' S'') : PenS k S S'' := by
  obtain ⟨x, y, h0, e⟩ := p.ex
  obtain ⟨x', y', h0', e'⟩ := q.ex
  exact ⟨q.esc.trans p.esc, x', y', h0', by rw [e', e, List.set_set]⟩
theorem PenS.len {k : Nat} {S S' : St} (p : PenS k S S') : S'.cells.length = S.cells.length := by
  obtain ⟨x, y, h0, e⟩ := p.ex
  rw [e, List.length_set]
/-- with one more cell behind -/
theorem PenS.cut {k : Nat} {C : List MObj} {e : List Nat} {o : MObj} {S' : St} (p : PenS k ⟨C ++ [o], e⟩ S') (h : k < C.length) : ∃ S3 : St, S' = ⟨S3.cells ++ [o], S3.esc⟩ ∧ PenS k ⟨C, e⟩ S3 := by
  obtain ⟨x, y, h0, e1⟩ := p.ex
  refine ⟨⟨C.set k (.lst [.int x, .int y]), e⟩, ?_, rfl, x, y, h0, rfl⟩
  cases S'
  have h2 := p.esc
  dsimp only at e1 h2
  rw [e1, h2, left_set h]
theorem HasPen.more {k : Nat} {C : List MObj} {e e' : List Nat} (h : HasPen k ⟨C, e⟩) (D' : List MObj) : HasPen k ⟨C ++ D', e'⟩ := by
  obtain ⟨x, y, h0, e1⟩ := h
  exact ⟨x, y, h0, left_get e1 D'⟩
/-- a def that works with the pen alone -/
theorem pen_def {T : Tx} {df : Def} {as : List RV} {S : St} {k : Nat} {G : RV → Prop} (hp : HasPen k S) (h : Wp (bodyRun T df as ⟨S.cells, []⟩) fun v S' => ∃ w S2 D', S' = ⟨S2.cells ++ D', []⟩ ∧ PenS k ⟨S.cells, []⟩ S2 ∧ Leaves S v S' w ∧ G w) :
    Wp (callDef T df as S) fun w S' => PenS k S S' ∧ G w := by
  refine wp_def (wp_mono h fun v S' ⟨w, S2, D', e, p, l, g⟩ => ⟨w, l, ?_, g⟩)
  obtain ⟨x, y, h0, e1⟩ := p.ex
  have hl := p.len
  refine ⟨rfl, x, y, h0, ?_⟩
  subst e
  show (S2.cells ++ D').take S.cells.length = _
  rw [show S.cells.length = S2.cells.length from hl.symm, List.take_left]
  exact e1
/-- a comprehension each of whose turns works the pen and gives a datum of a kind -/
theorem comp_pen {step : D → M (Option D)} {k : Nat} {G : D → Prop} {ds : List D} {S : St} {P : RV → St → Prop} (hp : HasPen k S) (hl : ds.length ≤ line)
    (h : ∀ x ∈ ds, ∀ S1 : St, HasPen k S1 → Wp (step x S1) fun o S2 => PenS k S1 S2 ∧ ∃ d, o = some d ∧ G d)
    (q : ∀ acc S', PenS k S S' → acc.length = ds.length → (∀ d ∈ acc, G d) → P (.tmp (.lst acc)) S') : Wp (compNew (fun n => compWalk step n (.row ds)) S) P := by
  refine comp_wp (J := fun i acc S1 => PenS k S S1 ∧ acc.length = i ∧ ∀ d ∈ acc, G d) ⟨PenS.refl hp, rfl, fun d m => by cases m⟩ hl (fun x m i acc S1 hn ⟨p, l, g⟩ => ?_) fun acc S' _ _ ⟨p, l, g⟩ => q acc S' p l g
  have hp1 := p.has hp
  refine wp_mono (h x m ⟨S1.cells ++ [.lst acc], S1.esc⟩ (HasPen.more (C := S1.cells) (e := S1.esc) hp1 _)) fun o S2 ⟨p2, d, e, gd⟩ => ?_
  obtain ⟨S3, e3, p3⟩ := p2.cut hp1.lt
  subst e
  refine ⟨S3, p3.len.trans hn, e3, p3.esc, p.trans p3, by rw [Option.toList_some, List.length_append, l]; rfl, fun y my => ?_⟩
  rcases List.mem_append.mp my with my | my
  · exact g y my
  · rw [Option.toList_some] at my
    rw [List.mem_singleton.mp my]
    exact gd
theorem range_len (lo : Int) (n : Nat) : (rangeD lo n).length = n := by
  unfold rangeD
  rw [List.length_map, List.length_range]
theorem bk_S {S : St} {s : Str} : bkOf S (.v (.d (.str s))) = some .str := rfl
theorem bo_sj : bmOk .str .join = true := rfl
theorem bm_joinL {S : St} {s : Str} {ds : List D} {xs : List Str} (h : strsOf ds = some xs) (hl : joinLen s xs ≤ line) : callBm .join (.v (.d (.str s))) [.tmp (.lst ds)] S = .ok (.v (.d (.str (Txt.join s xs)))) S := by
  show lift (joinO (.str s) [.lst ds]) S = _
  unfold joinO
  simp only [h]
  rw [if_pos hl]
  rfl
theorem mem_joinS : ∀ (l : List Str) (c : Nat), c ∈ (Str.join "" l).cps.toList → ∃ a ∈ l, c ∈ a.cps.toList
  | [], c, h => by cases h
  | [x], c, h => ⟨x, List.mem_cons_self, h⟩
  | x :: y :: r, c, h => by
    have e : (Str.join "" (x :: y :: r)).cps.toList = x.cps.toList ++ (Str.join "" (y :: r)).cps.toList := by
      show ((x ++ "" ++ Str.join "" (y :: r) : Str)).cps.toList = _
      show (x.cps ++ (Str.ofString "").cps ++ (Str.join "" (y :: r)).cps).toList = _
      rw [Array.toList_append, Array.toList_append]
      rw [show (Str.ofString "").cps.toList = [] by decide, List.append_nil]
    rw [e] at h
    rcases List.mem_append.mp h with h | h
    · exact ⟨x, List.mem_cons_self, h⟩
    · obtain ⟨a, m, q⟩ := mem_joinS (y :: r) c h
      exact ⟨a, List.mem_cons_of_mem _ m, q⟩
theorem lay_f {ds : List D} : lay false (.tmp (.lst ds)) = lift (some (.d (.lst ds))) := rfl
end Pk
end
section
set_option Elab.async false
set_option linter.all false
set_option maxRecDepth 100000
/-! A run of the small language step by step: each rule looks at the foremost step alone. -/
namespace Pk
open PySem

theorem use {α : Type} {r : Res α} {a : α} {S : St} {P : α → St → Prop} (h : r = .ok a S) (k : P a S) : Wp r P := by
  rw [h]
  first | exact k | exact .ok k | exact wp_mono k fun _ _ z => .ok z
theorem use2 {α : Type} {r : Res α} {P Q : α → St → Prop} (h : Wp r Q) (i : ∀ a S', Q a S' → P a S') : Wp r P := wp_mono h i
/-! ### slots -/
inductive SetE : Nat → Option Val → Env → Env → Prop
  | z {x y : Option Val} {r : Env} : SetE 0 x (y :: r) (x :: r)
  | s {i : Nat} {x y : Option Val} {r r' : Env} : SetE i x r r' → SetE (i + 1) x (y :: r) (y :: r')
theorem SetE.eq {i : Nat} {x : Option Val} {ρ ρ' : Env} (h : SetE i x ρ ρ') : i < ρ.length ∧ ρ' = ρ.set i x := by
  induction h with
  | z => exact ⟨Nat.zero_lt_succ _, rfl⟩
  | s _ ih => exact ⟨Nat.succ_lt_succ ih.1, by rw [ih.2]; rfl⟩
theorem SetE.setV {i : Nat} {x : Val} {ρ ρ' : Env} (h : SetE i (some x) ρ ρ') : Pk.setV i x ρ = some ρ' := by
  unfold Pk.setV
  rw [if_pos h.eq.1, h.eq.2]
inductive WipE : Env → List Nat → Env → Prop
  | nil {ρ : Env} : WipE ρ [] ρ
  | cons {ρ ρ1 ρ2 : Env} {v : Nat} {vs : List Nat} : WipE ρ vs ρ1 → SetE v none ρ1 ρ2 → WipE ρ (v :: vs) ρ2
theorem WipE.eq {ρ ρ' : Env} {vs : List Nat} (h : WipE ρ vs ρ') : wipeE ρ vs = ρ' := by
  induction h with
  | nil => rfl
  | cons _ h2 ih =>
    show (wipeE _ _).set _ none = _
    rw [ih, h2.eq.2]
mutual
inductive TgE : Tg → D → Env → Env → Prop
  | v {i : Nat} {x : D} {ρ ρ' : Env} : SetE i (some (.d x)) ρ ρ' → TgE (.v i) x ρ ρ'
  | tup {ts : List Tg} {xs : List D} {ρ ρ' : Env} : TgL ts xs ρ ρ' → TgE (.tup ts) (.tup xs) ρ ρ'
inductive TgL : List Tg → List D → Env → Env → Prop
  | nil {ρ : Env} : TgL [] [] ρ ρ
  | cons {t : Tg} {ts : List Tg} {x : D} {xs : List D} {ρ ρ1 ρ' : Env} : TgE t x ρ ρ1 → TgL ts xs ρ1 ρ' → TgL (t :: ts) (x :: xs) ρ ρ'
end
mutual
theorem TgE.eq : ∀ {t : Tg} {x : D} {ρ ρ' : Env}, TgE t x ρ ρ' → setTg t x ρ = some ρ'
  | .v i, x, ρ, ρ', h => by
    cases h with
    | v h => rw [setTg, if_pos h.eq.1, h.eq.2]
  | .tup ts, _, ρ, ρ', h => by
    cases h with
    | tup h =>
      rw [setTg]
      exact TgL.eq h
theorem TgL.eq : ∀ {ts : List Tg} {xs : List D} {ρ ρ' : Env}, TgL ts xs ρ ρ' → setTgL ts xs ρ = some ρ'
  | [], _, ρ, ρ', h => by
    cases h
    rw [setTgL]
  | t :: ts, _, ρ, ρ', h => by
    cases h with
    | cons h1 h2 =>
      rw [setTgL, TgE.eq h1]
      exact TgL.eq h2
end
inductive EnvE : Nat → List Val → Env → Prop
  | nil : EnvE 0 [] []
  | none {n : Nat} {ρ : Env} : EnvE n [] ρ → EnvE (n + 1) [] (none :: ρ)
  | cons {n : Nat} {x : Val} {xs : List Val} {ρ : Env} : EnvE n xs ρ → EnvE (n + 1) (x :: xs) (some x :: ρ)
theorem EnvE.eq {n : Nat} {xs : List Val} {ρ : Env} (h : EnvE n xs ρ) : xs.map some ++ List.replicate (n - xs.length) Option.none = ρ := by
  induction h with
  | nil => rfl
  | none _ ih => rw [show ∀ n : Nat, n + 1 - ([] : List Val).length = (n - ([] : List Val).length) + 1 from fun n => rfl, List.replicate_succ, ← ih]; rfl
  | cons _ ih => rw [← ih, List.map_cons, List.length_cons, Nat.add_sub_add_right]; rfl
/-! ### what a value is next used for -/
section
variable {α : Type}
def TupK (as : List RV) (S : St) (P : RV → St → Prop) : Prop := ∃ ds, dats as = some ds ∧ ds.length ≤ line ∧ P (.v (.d (.tup ds))) S
theorem tup_k {as : List RV} {ds : List D} {S : St} {P : RV → St → Prop} (h : dats as = some ds) (l : Nat.ble ds.length line = true) (k : P (.v (.d (.tup ds))) S) : TupK as S P := ⟨ds, h, Nat.le_of_ble_eq_true l, k⟩
def LstK (as : List RV) (S : St) (P : RV → St → Prop) : Prop := ∃ ds, dats as = some ds ∧ ds.length ≤ line ∧ P (.tmp (.lst ds)) S
theorem lst_k {as : List RV} {ds : List D} {S : St} {P : RV → St → Prop} (h : dats as = some ds) (l : Nat.ble ds.length line = true) (k : P (.tmp (.lst ds)) S) : LstK as S P := ⟨ds, h, Nat.le_of_ble_eq_true l, k⟩
def BinK (op : Operator) (a b : RV) (S : St) (P : RV → St → Prop) : Prop := ∃ x y r, a.look S = some x ∧ b.look S = some y ∧ binD op x y = some r ∧ P r S
theorem bin_k {op : Operator} {a b r : RV} {x y : D} {S : St} {P : RV → St → Prop} (h1 : a.look S = some x) (h2 : b.look S = some y) (h3 : binD op x y = some r) (k : P r S) : BinK op a b S P := ⟨x, y, r, h1, h2, h3, k⟩
/-- a value's truth -/
def TstK (v : RV) (S : St) (Q : Bool → Prop) : Prop := ∃ d b, v.look S = some d ∧ truth d = some b ∧ Q b
theorem tst_k {v : RV} {d : D} {b : Bool} {S : St} {Q : Bool → Prop} (h1 : v.look S = some d) (h2 : truth d = some b) (k : Q b) : TstK v S Q := ⟨d, b, h1, h2, k⟩
theorem tst_b {b : Bool} {S : St} {Q : Bool → Prop} (k : Q b) : TstK (.v (.d (.bl b))) S Q := ⟨_, b, rfl, rfl, k⟩
theorem tst_n {S : St} {Q : Bool → Prop} (k : Q false) : TstK (.v (.d .non)) S Q := ⟨_, false, rfl, rfl, k⟩
/-- two ways -/
def IfK (b : Bool) (p q : Prop) : Prop := match b with
  | true => p
  | false => q
theorem if_t {p q : Prop} (k : p) : IfK true p q := k
theorem if_f {p q : Prop} (k : q) : IfK false p q := k
theorem if_nf {p q : Prop} (k : p) : IfK (!false) p q := k
theorem if_nt {p q : Prop} (k : q) : IfK (!true) p q := k
theorem if_d {c : Prop} [Decidable c] {p q : Prop} (h : c) (k : p) : IfK (decide c) p q := by rw [decide_eq_true h]; first | exact k | exact .ok k | exact wp_mono k fun _ _ z => .ok z
theorem if_n {c : Prop} [Decidable c] {p q : Prop} (h : ¬ c) (k : q) : IfK (decide c) p q := by rw [decide_eq_false h]; first | exact k | exact .ok k | exact wp_mono k fun _ _ z => .ok z
theorem if_nd {c : Prop} [Decidable c] {p q : Prop} (h : c) (k : q) : IfK (!decide c) p q := by rw [decide_eq_true h]; first | exact k | exact .ok k | exact wp_mono k fun _ _ z => .ok z
theorem if_nn {c : Prop} [Decidable c] {p q : Prop} (h : ¬ c) (k : p) : IfK (!decide c) p q := by rw [decide_eq_false h]; first | exact k | exact .ok k | exact wp_mono k fun _ _ z => .ok z
theorem if_e {b b' : Bool} {p q : Prop} (h : b = b') (k : IfK b' p q) : IfK b p q := by rw [h]; first | exact k | exact .ok k | exact wp_mono k fun _ _ z => .ok z
theorem if_both {b : Bool} {p q : Prop} (h : b = true → p) (g : b = false → q) : IfK b p q := by
  cases b
  · exact g rfl
  · exact h rfl
theorem ifk_eq {b : Bool} {p q : Prop} : IfK b p q = if b = true then p else q := by cases b <;> rfl
def CmpK (op : CmpOp) (a b : RV) (S : St) (P : RV → St → Prop) : Prop := Wp (cmpV op a b S) P
section
variable {a b : RV} {x y : D} {k : Bool} {S : St} {P : RV → St → Prop}
theorem cmp_eq (h1 : clsOf S a = none) (h2 : clsOf S b = none) (h3 : a.look S = some x) (h4 : b.look S = some y) (h5 : eqD x y = some k) (q : P (.v (.d (.bl k))) S) : CmpK .Eq a b S P := by
  unfold CmpK
  rw [w_eq]
  exact use (eq_ok h1 h2 h3 h4 h5) q
theorem cmp_ne (h1 : clsOf S a = none) (h2 : clsOf S b = none) (h3 : a.look S = some x) (h4 : b.look S = some y) (h5 : eqD x y = some k) (q : P (.v (.d (.bl (!k)))) S) : CmpK .NotEq a b S P := by
  unfold CmpK
  rw [w_ne, wp_bnd]
  exact use (eq_ok h1 h2 h3 h4 h5) (.ok q)
theorem cmp_eqI {i j : Int} (q : P (.v (.d (.bl (decide (i = j))))) S) : CmpK .Eq (.v (.d (.int i))) (.v (.d (.int j))) S P := cmp_eq rfl rfl rfl rfl (eqInt i j) q
theorem cmp_neI {i j : Int} (q : P (.v (.d (.bl (!decide (i = j))))) S) : CmpK .NotEq (.v (.d (.int i))) (.v (.d (.int j))) S P := cmp_ne rfl rfl rfl rfl (eqInt i j) q
theorem cmp_eqS {i j : Str} (q : P (.v (.d (.bl (decide (i = j))))) S) : CmpK .Eq (.v (.d (.str i))) (.v (.d (.str j))) S P := cmp_eq rfl rfl rfl rfl (eqStr i j) q
theorem cmp_neS {i j : Str} (q : P (.v (.d (.bl (!decide (i = j))))) S) : CmpK .NotEq (.v (.d (.str i))) (.v (.d (.str j))) S P := cmp_ne rfl rfl rfl rfl (eqStr i j) q
theorem cmp_is (h : noneD (b.look S) = true) (q : P (.v (.d (.bl a.isNon))) S) : CmpK .Is a b S P := by
  unfold CmpK
  rw [w_is, if_pos h]
  first | exact q | exact .ok q | exact wp_mono q fun _ _ z => .ok z
theorem cmp_isn (h : noneD (b.look S) = true) (q : P (.v (.d (.bl (!a.isNon)))) S) : CmpK .IsNot a b S P := by
  unfold CmpK
  rw [w_isn, if_pos h]
  first | exact q | exact .ok q | exact wp_mono q fun _ _ z => .ok z
def ordOp : CmpOp → Bool
  | .Lt | .LtE | .Gt | .GtE | .In | .NotIn => true
  | _ => false
theorem cmp_d {op : CmpOp} (ho : ordOp op = true) (h1 : a.look S = some x) (h2 : b.look S = some y) (h3 : cmpD op x y = some k) (q : P (.v (.d (.bl k))) S) : CmpK op a b S P := by
  unfold CmpK
  have e : cmpV op a b S = lift ((looks S [a, b]).bind fun ds => match ds with
      | [x, y] => (cmpD op x y).map bv
      | _ => none) S := by cases op <;> first | rfl | cases ho
  rw [e, looks2 h1 h2, Option.bind_some]
  show Wp (lift ((cmpD op x y).map bv) S) P
  rw [h3]
  first | exact q | exact .ok q | exact wp_mono q fun _ _ z => .ok z
theorem cmp_ltI {i j : Int} (q : P (.v (.d (.bl (decide (i < j))))) S) : CmpK .Lt (.v (.d (.int i))) (.v (.d (.int j))) S P := cmp_d rfl rfl rfl rfl q
theorem cmp_leI {i j : Int} (q : P (.v (.d (.bl (decide (i ≤ j))))) S) : CmpK .LtE (.v (.d (.int i))) (.v (.d (.int j))) S P := cmp_d rfl rfl rfl rfl q
theorem cmp_gtI {i j : Int} (q : P (.v (.d (.bl (decide (j < i))))) S) : CmpK .Gt (.v (.d (.int i))) (.v (.d (.int j))) S P := cmp_d rfl rfl rfl rfl q
theorem cmp_geI {i j : Int} (q : P (.v (.d (.bl (decide (j ≤ i))))) S) : CmpK .GtE (.v (.d (.int i))) (.v (.d (.int j))) S P := cmp_d rfl rfl rfl rfl q
end
def SubK (a i : RV) (S : St) (P : RV → St → Prop) : Prop := ∃ x y r, a.look S = some x ∧ i.look S = some y ∧ getD x y = some r ∧ P (.v (.d r)) S
theorem sub_k {a i : RV} {x y r : D} {S : St} {P : RV → St → Prop} (h1 : a.look S = some x) (h2 : i.look S = some y) (h3 : getD x y = some r) (k : P (.v (.d r)) S) : SubK a i S P := ⟨x, y, r, h1, h2, h3, k⟩
def SlcK (a : RV) (lo hi : Option Int) (S : St) (P : RV → St → Prop) : Prop := ∃ x r, a.look S = some x ∧ slcO x lo hi = some r ∧ P r S
theorem slc_k {a r : RV} {lo hi : Option Int} {x : D} {S : St} {P : RV → St → Prop} (h1 : a.look S = some x) (h2 : slcO x lo hi = some r) (k : P r S) : SlcK a lo hi S P := ⟨x, r, h1, h2, k⟩
def PartK (t : Bool) (v : RV) (Q : Option Int → Prop) : Prop := ∃ o, partR t v = some o ∧ Q o
theorem part_n {v : RV} {Q : Option Int → Prop} (k : Q none) : PartK false v Q := ⟨none, rfl, k⟩
theorem part_i {i : Int} {Q : Option Int → Prop} (k : Q (some i)) : PartK true (.v (.d (.int i))) Q := ⟨some i, rfl, k⟩
def RevK (a : RV) (S : St) (P : RV → St → Prop) : Prop := ∃ x r, a.look S = some x ∧ revD x = some r ∧ P r S
theorem rev_k {a r : RV} {x : D} {S : St} {P : RV → St → Prop} (h1 : a.look S = some x) (h2 : revD x = some r) (k : P r S) : RevK a S P := ⟨x, r, h1, h2, k⟩
def BfK (f : Bf) (as : List RV) (S : St) (P : RV → St → Prop) : Prop := ∃ ds r, looks S as = some ds ∧ bfD f ds = some r ∧ P r S
theorem bf_k {f : Bf} {as : List RV} {ds : List D} {r : RV} {S : St} {P : RV → St → Prop} (h1 : looks S as = some ds) (h2 : bfD f ds = some r) (k : P r S) : BfK f as S P := ⟨ds, r, h1, h2, k⟩
def NegK (a : RV) (S : St) (P : RV → St → Prop) : Prop := ∃ i, a.look S = some (.int i) ∧ P (.v (.d (.int (-i)))) S
theorem neg_k {a : RV} {i : Int} {S : St} {P : RV → St → Prop} (h1 : a.look S = some (.int i)) (k : P (.v (.d (.int (-i)))) S) : NegK a S P := ⟨i, h1, k⟩
/-- an object's class: c, or none -/
def ClsK (x : RV) (S : St) (Q : Nat → Prop) : Prop := ∃ c, clsOf S x = some c ∧ Q c
theorem cls_k {x : RV} {c : Nat} {S : St} {Q : Nat → Prop} (h : clsOf S x = some c) (k : Q c) : ClsK x S Q := ⟨c, h, k⟩
def OclK (x : RV) (S : St) (Q : Nat → Prop) (R : Prop) : Prop := match clsOf S x with
  | some c => Q c
  | none => R
theorem ocl_s {x : RV} {c : Nat} {S : St} {Q : Nat → Prop} {R : Prop} (h : clsOf S x = some c) (k : Q c) : OclK x S Q R := by unfold OclK; rw [h]; first | exact k | exact .ok k | exact wp_mono k fun _ _ z => .ok z
theorem ocl_n {x : RV} {S : St} {Q : Nat → Prop} {R : Prop} (h : clsOf S x = none) (k : R) : OclK x S Q R := by unfold OclK; rw [h]; first | exact k | exact .ok k | exact wp_mono k fun _ _ z => .ok z
def BkK (x : RV) (S : St) (m : Bm) (R : Prop) : Prop := ∃ k, bkOf S x = some k ∧ bmOk k m = true ∧ R
theorem bk_k {x : RV} {k : Bk} {S : St} {m : Bm} {R : Prop} (h : bkOf S x = some k) (o : bmOk k m = true) (q : R) : BkK x S m R := ⟨k, h, o, q⟩
def BackK (f : Bf) (v : RV) (S : St) (P : RV → St → Prop) : Prop := ∃ d r, v.look S = some d ∧ backD f d = some r ∧ P r S
theorem back_k {f : Bf} {v r : RV} {d : D} {S : St} {P : RV → St → Prop} (h1 : v.look S = some d) (h2 : backD f d = some r) (k : P r S) : BackK f v S P := ⟨d, r, h1, h2, k⟩
def IsiK (x : RV) (ts : List Ty) (S : St) (Q : Bool → Prop) : Prop := ∃ b, (match clsOf S x with
    | some c => some (ts.any fun t => t == .own c)
    | none => (x.look S).map fun d => ts.any fun t => tyOk t d == some true) = some b ∧ Q b
theorem isi_k {x : RV} {ts : List Ty} {S : St} {b : Bool} {Q : Bool → Prop} (h : (match clsOf S x with
    | some c => some (ts.any fun t => t == .own c)
    | none => (x.look S).map fun d => ts.any fun t => tyOk t d == some true) = some b) (k : Q b) : IsiK x ts S Q := ⟨b, h, k⟩
def AttrK (x : RV) (f : Nat) (S : St) (P : RV → St → Prop) : Prop := ∃ y, attrOf S f x = some y ∧ P (.v y) S
theorem attr_k {x : RV} {f : Nat} {y : Val} {S : St} {P : RV → St → Prop} (h : attrOf S f x = some y) (k : P (.v y) S) : AttrK x f S P := ⟨y, h, k⟩
def WalkK (x : RV) (S : St) (P : Walk → St → Prop) : Prop := ∃ w, walkOf S x = some w ∧ P w S
theorem walk_k {x : RV} {w : Walk} {S : St} {P : Walk → St → Prop} (h : walkOf S x = some w) (k : P w S) : WalkK x S P := ⟨w, h, k⟩
def RangeK (as : List RV) (S : St) (P : Walk → St → Prop) : Prop := ∃ ds r, looks S as = some ds ∧ rangeOf ds = some r ∧ P (.row r) S
theorem range_k {as : List RV} {ds r : List D} {S : St} {P : Walk → St → Prop} (h : looks S as = some ds) (h2 : rangeOf ds = some r) (k : P (.row r) S) : RangeK as S P := ⟨ds, r, h, h2, k⟩
def ZipK (as : List RV) (S : St) (P : Walk → St → Prop) : Prop := ∃ x y r, dats as = some [x, y] ∧ zipO x y = some r ∧ P (.row r) S
theorem zip_k {as : List RV} {x y : D} {r : List D} {S : St} {P : Walk → St → Prop} (h : dats as = some [x, y]) (h2 : zipO x y = some r) (k : P (.row r) S) : ZipK as S P := ⟨x, y, r, h, h2, k⟩
/-- a value laid under a name -/
def LayK (c : Bool) (v : RV) (S : St) (P : Val → St → Prop) : Prop := Wp (lay c v S) P
theorem lay_v {c : Bool} {x : Val} {S : St} {P : Val → St → Prop} (k : P x S) : LayK c (.v x) S P := by
  unfold LayK
  cases c <;> first | exact k | exact .ok k | exact wp_mono k fun _ _ z => .ok z
theorem lay_cell {o : MObj} {S : St} {P : Val → St → Prop} (k : P (.r S.cells.length) ⟨S.cells ++ [o], S.esc⟩) : LayK true (.tmp o) S P := .ok k
theorem lay_lst {ds : List D} {S : St} {P : Val → St → Prop} (k : P (.d (.lst ds)) S) : LayK false (.tmp (.lst ds)) S P := .ok k
theorem lay_dic {ds : List (D × D)} {S : St} {P : Val → St → Prop} (k : P (.d (.dic ds)) S) : LayK false (.tmp (.dic ds)) S P := .ok k
def SetK (i : Nat) (x : Val) (ρ : Env) (Q : Env → Prop) : Prop := ∃ ρ', setV i x ρ = some ρ' ∧ Q ρ'
theorem set_k {i : Nat} {x : Val} {ρ ρ' : Env} {Q : Env → Prop} (h : SetE i (some x) ρ ρ') (k : Q ρ') : SetK i x ρ Q := ⟨ρ', h.setV, k⟩
def TgK (t : Tg) (x : D) (ρ : Env) (Q : Env → Prop) : Prop := ∃ ρ', setTg t x ρ = some ρ' ∧ Q ρ'
theorem tg_k {t : Tg} {x : D} {ρ ρ' : Env} {Q : Env → Prop} (h : TgE t x ρ ρ') (k : Q ρ') : TgK t x ρ Q := ⟨ρ', h.eq, k⟩
def DatK (v : RV) (Q : D → Prop) : Prop := ∃ d, v.toD = some d ∧ Q d
theorem dat_k {v : RV} {d : D} {Q : D → Prop} (h : v.toD = some d) (k : Q d) : DatK v Q := ⟨d, h, k⟩
end
/-! ### a comprehension's turn, a loop's turn -/
noncomputable def compStep (T : Tx) (elt : ME) (tg : Tg) (own : List Nat) (cond : ME) (ρ : Env) : D → M (Option D) := fun x => match setTg tg x (wipeE ρ own) with
      | some ρ' => bnd (testOf (evE T cond ρ')) fun b => if b = true then bnd (evE T elt ρ') fun v => lift (v.toD.map some) else ret none
      | none => fail
noncomputable def forStep (T : Tx) (tg : Tg) (body : List MS) : D → Env → M (Option (Option RV) × Env) := fun x ρ => match setTg tg x ρ with
      | some ρ' => turnOf (evB T body ρ')
      | none => fail
def TurnK (p : Fl × Env) (S : St) (P : Option (Option RV) × Env → St → Prop) : Prop := match p with
  | (.nx, ρ) => P (none, ρ) S
  | (.cont, ρ) => P (none, ρ) S
  | (.brk, ρ) => P (some none, ρ) S
  | (.ret v, ρ) => P (some (some v), ρ) S
section
variable {ρ : Env} {S : St}
theorem turn_nx {P : Option (Option RV) × Env → St → Prop} (k : P (none, ρ) S) : TurnK (.nx, ρ) S P := k
theorem turn_ct {P : Option (Option RV) × Env → St → Prop} (k : P (none, ρ) S) : TurnK (.cont, ρ) S P := k
theorem turn_bk {P : Option (Option RV) × Env → St → Prop} (k : P (some none, ρ) S) : TurnK (.brk, ρ) S P := k
theorem turn_rt {P : Option (Option RV) × Env → St → Prop} {v : RV} (k : P (some (some v), ρ) S) : TurnK (.ret v, ρ) S P := k
end
def EndL (p : Option (Option RV) × Env) (S : St) (P : Fl × Env → St → Prop) : Prop := match p with
  | (none, ρ) => P (.nx, ρ) S
  | (some none, ρ) => P (.nx, ρ) S
  | (some (some v), ρ) => P (.ret v, ρ) S
section
variable {ρ : Env} {S : St} {P : Fl × Env → St → Prop}
theorem endl_n (k : P (.nx, ρ) S) : EndL (none, ρ) S P := k
theorem endl_b (k : P (.nx, ρ) S) : EndL (some none, ρ) S P := k
theorem endl_r {v : RV} (k : P (.ret v, ρ) S) : EndL (some (some v), ρ) S P := k
end
def SeqK (T : Tx) (ss : List MS) (p : Fl × Env) (S : St) (P : Fl × Env → St → Prop) : Prop := match p with
  | (.nx, ρ) => Wp (evB T ss ρ S) P
  | q => P q S
def EndK (p : Fl × Env) (S : St) (P : RV → St → Prop) : Prop := match p with
  | (.nx, _) => P (.v (.d .non)) S
  | (.ret v, _) => P v S
  | _ => False
section
variable {T : Tx} {ρ : Env} {S : St}
theorem seq_nx {ss : List MS} {P : Fl × Env → St → Prop} (k : Wp (evB T ss ρ S) P) : SeqK T ss (.nx, ρ) S P := k
theorem seq_rt {ss : List MS} {P : Fl × Env → St → Prop} {v : RV} (k : P (.ret v, ρ) S) : SeqK T ss (.ret v, ρ) S P := k
theorem seq_bk {ss : List MS} {P : Fl × Env → St → Prop} (k : P (.brk, ρ) S) : SeqK T ss (.brk, ρ) S P := k
theorem seq_ct {ss : List MS} {P : Fl × Env → St → Prop} (k : P (.cont, ρ) S) : SeqK T ss (.cont, ρ) S P := k
theorem end_nx {P : RV → St → Prop} (k : P (.v (.d .non)) S) : EndK (.nx, ρ) S P := k
theorem end_rt {P : RV → St → Prop} {v : RV} (k : P v S) : EndK (.ret v, ρ) S P := k
end
/-! ### comparisons, own ones too -/
def CmpO (T : Tx) (op : CmpOp) (a b : RV) (S : St) (P : RV → St → Prop) : Prop := Wp (cmpW T op a b S) P
section
variable {T : Tx} {op : CmpOp} {a b : RV} {S : St} {P : RV → St → Prop}
theorem cmpo (k : CmpK op a b S P) : CmpO T op a b S P := by
  unfold CmpO cmpW
  unfold CmpK at k
  cases e : cmpV op a b S with
  | ok r S' => rw [e] at k; exact k
  | exc x S' => rw [e] at k; exact k.exc.elim
  | err => rw [e] at k; exact k.err.elim
theorem cmpo_own (n : ∀ r S', cmpV op a b S ≠ .ok r S') (k : Wp (ownCmp T op a b S) P) : CmpO T op a b S P := by
  unfold CmpO cmpW
  cases e : cmpV op a b S with
  | ok r S' => exact (n r S' e).elim
  | exc x S' => exact k
  | err => exact k
theorem eqv_ins {c : Nat} (h : clsOf S a = some c) : eqV a b S = .err := by
  unfold eqV
  rw [h]
theorem eqv_insR {c : Nat} (h : clsOf S b = some c) : eqV a b S = .err := by
  unfold eqV
  rw [h]
  cases clsOf S a <;> rfl
theorem cmpo_eqL {c : Nat} {x y : Val} (h : clsOf S (.v x) = some c) (hh : T.has (.me c "__eq__") = true) (hk : known S (.v y) = true) (k : Wp (T.call (.me c "__eq__") [.v x, .v y] S) fun v S' => ∃ j, v = .v (.d (.bl j)) ∧ P (.v (.d (.bl j))) S') : CmpO T .Eq (.v x) (.v y) S P := by
  refine cmpo_own (fun r S' e => ?_) ?_
  · have e : eqV (.v x) (.v y) S = _ := e
    rw [eqv_ins h] at e
    cases e
  · show Wp (ownEq T .Eq id (.v x) (.v y) S) P
    unfold ownEq
    simp only [h]
    rw [if_pos ⟨hh, hk⟩]
    cases e : T.call (.me c "__eq__") [.v x, .v y] S with
    | ok r S' =>
      rw [e] at k
      obtain ⟨j, rfl, k2⟩ := k.out
      unfold nox bnd
      rw [e]
      exact .ok k2
    | exc x S' => rw [e] at k; exact k.exc.elim
    | err => rw [e] at k; exact k.err.elim
theorem cmpo_neL {c : Nat} {x y : Val} (h : clsOf S (.v x) = some c) (hh : T.has (.me c "__eq__") = true) (hk : known S (.v y) = true) (k : Wp (T.call (.me c "__eq__") [.v x, .v y] S) fun v S' => ∃ j, v = .v (.d (.bl j)) ∧ P (.v (.d (.bl (!j)))) S') : CmpO T .NotEq (.v x) (.v y) S P := by
  refine cmpo_own (fun r S' e => ?_) ?_
  · have e : bnd (eqV (.v x) (.v y)) notV S = _ := e
    unfold bnd at e
    rw [eqv_ins h] at e
    cases e
  · show Wp (ownEq T .NotEq (!·) (.v x) (.v y) S) P
    unfold ownEq
    simp only [h]
    rw [if_pos ⟨hh, hk⟩]
    cases e : T.call (.me c "__eq__") [.v x, .v y] S with
    | ok r S' =>
      rw [e] at k
      obtain ⟨j, rfl, k2⟩ := k.out
      unfold nox bnd
      rw [e]
      exact .ok k2
    | exc x S' => rw [e] at k; exact k.exc.elim
    | err => rw [e] at k; exact k.err.elim
theorem cmpo_eqR {c : Nat} {x : D} {y : Val} (h0 : clsOf S (.v (.d x)) = none) (h : clsOf S (.v y) = some c) (hh : T.has (.me c "__eq__") = true) (hk : declines x = true) (k : Wp (T.call (.me c "__eq__") [.v y, .v (.d x)] S) fun v S' => ∃ j, v = .v (.d (.bl j)) ∧ P (.v (.d (.bl j))) S') : CmpO T .Eq (.v (.d x)) (.v y) S P := by
  refine cmpo_own (fun r S' e => ?_) ?_
  · have e : eqV (.v (.d x)) (.v y) S = _ := e
    rw [eqv_insR h] at e
    cases e
  · show Wp (ownEq T .Eq id (.v (.d x)) (.v y) S) P
    unfold ownEq
    simp only [h0, h]
    rw [if_pos ⟨hh, hk⟩]
    cases e : T.call (.me c "__eq__") [.v y, .v (.d x)] S with
    | ok r S' =>
      rw [e] at k
      obtain ⟨j, rfl, k2⟩ := k.out
      unfold nox bnd
      rw [e]
      exact .ok k2
    | exc x S' => rw [e] at k; exact k.exc.elim
    | err => rw [e] at k; exact k.err.elim
theorem cmpo_in {k : Bool} {x y : D} {ys : List D} (ho : (op = .In ∧ k = true) ∨ (op = .NotIn ∧ k = false)) (n : ∀ r S', cmpV op (.v (.d x)) b S ≠ .ok r S') (hb : b.look S = some (.lst (y :: ys))) (hp : insPair T S y x) (q : P (.v (.d (.bl k))) S) : CmpO T op (.v (.d x)) b S P := by
  refine cmpo_own n ?_
  have e : ownCmp T op (.v (.d x)) b S = ownIn T k (.v (.d x)) b S := by rcases ho with ⟨rfl, rfl⟩ | ⟨rfl, rfl⟩ <;> rfl
  rw [e]
  unfold ownIn
  simp only [hb]
  rw [if_pos hp]
  exact .ok q
theorem isNon_bl {j : Bool} : RV.isNon (.v (.d (.bl j))) = false := rfl
theorem cmpo_isB {i j : Bool} (q : P (.v (.d (.bl (i == j)))) S) : CmpO T .Is (.v (.d (.bl i))) (.v (.d (.bl j))) S P := cmpo_own (fun r S' e => by cases e) (.ok q)
theorem cmpo_isnB {i j : Bool} (q : P (.v (.d (.bl (!(i == j))))) S) : CmpO T .IsNot (.v (.d (.bl i))) (.v (.d (.bl j))) S P := cmpo_own (fun r S' e => by cases e) (.ok q)
end
/-- a part of an f-string -/
def FmtK (r : Bool) (x : RV) (S : St) (P : RV → St → Prop) : Prop := ∃ d v, x.look S = some d ∧ fmtD r d = some v ∧ P v S
theorem fmt_k {r : Bool} {x v : RV} {d : D} {S : St} {P : RV → St → Prop} (h1 : x.look S = some d) (h2 : fmtD r d = some v) (k : P v S) : FmtK r x S P := ⟨d, v, h1, h2, k⟩
def JK (T : Tx) (es : List ME) (ρ : Env) (acc : Str) (x : RV) (S : St) (P : RV → St → Prop) : Prop := ∃ y, x = .v (.d (.str y)) ∧ (acc ++ y).length ≤ line ∧ Wp (evJ T es (acc ++ y) ρ S) P
theorem j_k {T : Tx} {es : List ME} {ρ : Env} {acc y : Str} {S : St} {P : RV → St → Prop} (l : (acc ++ y).length ≤ line) (k : Wp (evJ T es (acc ++ y) ρ S) P) : JK T es ρ acc (.v (.d (.str y))) S P := ⟨y, rfl, l, k⟩
/-! ### expressions -/
section
variable {T : Tx} {ρ : Env} {S : St} {P : RV → St → Prop}
theorem x_fmt {r : Bool} {a : ME} (h : Wp (evE T a ρ S) fun x S1 => FmtK r x S1 P) : Wp (evE T (.fmt r a) ρ S) P := by
  rw [evE, wp_bnd]
  refine wp_mono h fun x S1 ⟨d, v, h1, h2, k⟩ => ?_
  rw [wp_bnd, wp_look h1, wp_lift h2]
  exact k
theorem x_jstr {es : List ME} (h : Wp (evJ T es Str.empty ρ S) P) : Wp (evE T (.jstr es) ρ S) P := by
  rw [evE]
  exact h
theorem j_nil {acc : Str} (k : P (.v (.d (.str acc))) S) : Wp (evJ T [] acc ρ S) P := by
  rw [evJ]
  exact .ok k
theorem j_cons {e : ME} {es : List ME} {acc : Str} (h : Wp (evE T e ρ S) fun x S1 => JK T es ρ acc x S1 P) : Wp (evJ T (e :: es) acc ρ S) P := by
  rw [evJ, wp_bnd]
  refine wp_mono h fun x S1 ⟨y, e, l, k⟩ => ?_
  subst e
  show Wp ((if (acc ++ y).length ≤ line then evJ T es (acc ++ y) ρ else fail) S1) P
  rw [if_pos l]
  exact k
theorem x_c {d : D} (k : P (.v (.d d)) S) : Wp (evE T (.c d) ρ S) P := by rw [evE]; first | exact k | exact .ok k | exact wp_mono k fun _ _ z => .ok z
theorem x_v {i : Nat} {x : Val} (e : ρ[i]? = some (some x)) (k : P (.v x) S) : Wp (evE T (.v i) ρ S) P := by rw [evE, e]; first | exact k | exact .ok k | exact wp_mono k fun _ _ z => .ok z
theorem x_g {x : Str} {d : D} (e : T.glob x = some d) (k : P (.v (.d d)) S) : Wp (evE T (.g x) ρ S) P := by rw [evE, e]; first | exact k | exact .ok k | exact wp_mono k fun _ _ z => .ok z
theorem x_tup {es : List ME} (h : Wp (evL T es ρ S) fun as S1 => TupK as S1 P) : Wp (evE T (.tup es) ρ S) P := by
  rw [evE, wp_bnd]
  refine wp_mono h fun as S1 ⟨ds, e, l, k⟩ => ?_
  rw [e, Option.bind_some, if_pos l]
  first | exact k | exact .ok k | exact wp_mono k fun _ _ z => .ok z
theorem x_lst {es : List ME} (h : Wp (evL T es ρ S) fun as S1 => LstK as S1 P) : Wp (evE T (.lst es) ρ S) P := by
  rw [evE, wp_bnd]
  refine wp_mono h fun as S1 ⟨ds, e, l, k⟩ => ?_
  rw [e, Option.bind_some, if_pos l]
  first | exact k | exact .ok k | exact wp_mono k fun _ _ z => .ok z
theorem x_dic0 (k : P (.tmp (.dic [])) S) : Wp (evE T (.dic [] []) ρ S) P := by rw [evE]; first | exact k | exact .ok k | exact wp_mono k fun _ _ z => .ok z
theorem x_bin {op : Operator} {a b : ME} (h : Wp (evE T a ρ S) fun x S1 => Wp (evE T b ρ S1) fun y S2 => BinK op x y S2 P) : Wp (evE T (.bin op a b) ρ S) P := by
  rw [evE, wp_bnd]
  refine wp_mono h fun x S1 h => ?_
  rw [wp_bnd]
  refine wp_mono h fun y S2 ⟨x', y', r, h1, h2, h3, k⟩ => ?_
  rw [wp_bnd, wp_looks (looks2 h1 h2), wp_lift h3]
  first | exact k | exact .ok k | exact wp_mono k fun _ _ z => .ok z
theorem x_neg {a : ME} (h : Wp (evE T a ρ S) fun x S1 => NegK x S1 P) : Wp (evE T (.neg a) ρ S) P := by
  rw [evE, wp_bnd]
  refine wp_mono h fun x S1 ⟨i, h1, k⟩ => ?_
  rw [wp_bnd, wp_look h1]
  first | exact k | exact .ok k | exact wp_mono k fun _ _ z => .ok z
theorem x_test {e : ME} {Q : Bool → St → Prop} (h : Wp (evE T e ρ S) fun x S1 => TstK x S1 fun b => Q b S1) : Wp (testOf (evE T e ρ) S) Q := by
  unfold testOf
  rw [wp_bnd]
  refine wp_mono h fun x S1 ⟨d, b, h1, h2, k⟩ => ?_
  rw [wp_bnd, wp_look h1, wp_lift h2]
  first | exact k | exact .ok k | exact wp_mono k fun _ _ z => .ok z
theorem x_not {a : ME} (h : Wp (evE T a ρ S) fun x S1 => TstK x S1 fun b => P (.v (.d (.bl (!b)))) S1) : Wp (evE T (.not a) ρ S) P := by
  rw [evE, wp_bnd]
  exact wp_mono (x_test (Q := fun b S1 => P (.v (.d (.bl (!b)))) S1) h) fun _ _ z => .ok z
theorem x_and {a b : ME} (h : Wp (evE T a ρ S) fun x S1 => TstK x S1 fun t => IfK t (Wp (evE T b ρ S1) P) (P x S1)) : Wp (evE T (.and a b) ρ S) P := by
  rw [evE, wp_bnd]
  refine wp_mono h fun x S1 ⟨d, t, h1, h2, k⟩ => ?_
  unfold testOf
  rw [wp_bnd, wp_bnd, wp_ret, wp_bnd, wp_look h1, wp_lift h2]
  cases t
  · first | exact k | exact .ok k | exact wp_mono k fun _ _ z => .ok z
  · first | exact k | exact .ok k | exact wp_mono k fun _ _ z => .ok z
theorem x_or {a b : ME} (h : Wp (evE T a ρ S) fun x S1 => TstK x S1 fun t => IfK t (P x S1) (Wp (evE T b ρ S1) P)) : Wp (evE T (.or a b) ρ S) P := by
  rw [evE, wp_bnd]
  refine wp_mono h fun x S1 ⟨d, t, h1, h2, k⟩ => ?_
  unfold testOf
  rw [wp_bnd, wp_bnd, wp_ret, wp_bnd, wp_look h1, wp_lift h2]
  cases t
  · first | exact k | exact .ok k | exact wp_mono k fun _ _ z => .ok z
  · first | exact k | exact .ok k | exact wp_mono k fun _ _ z => .ok z
theorem x_cmp {op : CmpOp} {a b : ME} (h : Wp (evE T a ρ S) fun x S1 => Wp (evE T b ρ S1) fun y S2 => CmpO T op x y S2 P) : Wp (evE T (.cmp op a b) ρ S) P := by
  rw [evE, wp_bnd]
  refine wp_mono h fun x S1 h => ?_
  rw [wp_bnd]
  first | exact h | exact .ok h | exact wp_mono h fun _ _ z => .ok z
theorem x_chn {o1 o2 : CmpOp} {a b c : ME} (h : Wp (evE T a ρ S) fun x S1 => Wp (evE T b ρ S1) fun y S2 => CmpK o1 x y S2 fun v S3 => TstK v S3 fun t => IfK t (Wp (evE T c ρ S3) fun z S4 => CmpK o2 y z S4 P) (P (.v (.d (.bl false))) S3)) : Wp (evE T (.chn o1 o2 a b c) ρ S) P := by
  rw [evE, wp_bnd]
  refine wp_mono h fun x S1 h => ?_
  rw [wp_bnd]
  refine wp_mono h fun y S2 h => ?_
  unfold testOf
  rw [wp_bnd, wp_bnd]
  refine wp_mono h fun v S3 ⟨d, t, h1, h2, k⟩ => ?_
  rw [wp_bnd, wp_look h1, wp_lift h2]
  cases t
  · first | exact k | exact .ok k | exact wp_mono k fun _ _ z => .ok z
  · show Wp (bnd _ _ _) _
    rw [wp_bnd]
    first | exact k | exact .ok k | exact wp_mono k fun _ _ z => .ok z
theorem x_ite {t a b : ME} (h : Wp (evE T t ρ S) fun x S1 => TstK x S1 fun k => IfK k (Wp (evE T a ρ S1) P) (Wp (evE T b ρ S1) P)) : Wp (evE T (.ite t a b) ρ S) P := by
  rw [evE, wp_bnd]
  refine x_test (Q := fun k S1 => Wp ((if k = true then evE T a ρ else evE T b ρ) S1) P) (wp_mono h fun x S1 ⟨d, k, h1, h2, q⟩ => ⟨d, k, h1, h2, ?_⟩)
  cases k
  · first | exact q | exact .ok q | exact wp_mono q fun _ _ z => .ok z
  · first | exact q | exact .ok q | exact wp_mono q fun _ _ z => .ok z
theorem x_sub {a i : ME} (h : Wp (evE T a ρ S) fun x S1 => Wp (evE T i ρ S1) fun y S2 => SubK x y S2 P) : Wp (evE T (.sub a i) ρ S) P := by
  rw [evE, wp_bnd]
  refine wp_mono h fun x S1 h => ?_
  rw [wp_bnd]
  refine wp_mono h fun y S2 ⟨x', y', r, h1, h2, h3, k⟩ => ?_
  rw [wp_bnd, wp_looks (looks2 h1 h2)]
  show Wp (lift ((getD x' y').map dv) S2) P
  rw [h3]
  first | exact k | exact .ok k | exact wp_mono k fun _ _ z => .ok z
theorem x_slc {a lo hi : ME} {nl nh : Bool} (h : Wp (evE T a ρ S) fun x S1 => Wp (evE T lo ρ S1) fun y S2 => PartK nl y fun l => Wp (evE T hi ρ S2) fun z S3 => PartK nh z fun g => SlcK x l g S3 P) : Wp (evE T (.slc a lo hi nl nh) ρ S) P := by
  rw [evE, wp_bnd]
  refine wp_mono h fun x S1 h => ?_
  rw [wp_bnd]
  refine wp_mono h fun y S2 ⟨l, e1, h⟩ => ?_
  rw [wp_bnd, wp_lift e1, wp_bnd]
  refine wp_mono h fun z S3 ⟨g, e2, x', r, h1, h2, k⟩ => ?_
  rw [wp_bnd, wp_lift e2, wp_bnd, wp_look h1, wp_lift h2]
  first | exact k | exact .ok k | exact wp_mono k fun _ _ z => .ok z
theorem x_rev {a : ME} (h : Wp (evE T a ρ S) fun x S1 => RevK x S1 P) : Wp (evE T (.rev a) ρ S) P := by
  rw [evE, wp_bnd]
  refine wp_mono h fun x S1 ⟨x', r, h1, h2, k⟩ => ?_
  rw [wp_bnd, wp_look h1, wp_lift h2]
  first | exact k | exact .ok k | exact wp_mono k fun _ _ z => .ok z
theorem x_call {f : Str} {es : List ME} {ds : List D} (hh : T.has (.fn f) = true) (h : Wp (evL T es ρ S) fun as S1 => Wp (T.call (.fn f) (place ds as) S1) P) : Wp (evE T (.call f es ds) ρ S) P := by
  rw [evE, if_pos hh, wp_bnd]
  first | exact h | exact .ok h | exact wp_mono h fun _ _ z => .ok z
theorem x_mk {c : Nat} {es : List ME} {ds : List D} (hh : T.has (.init c) = true) (h : Wp (evL T es ρ S) fun as S1 => Wp (make T c (place ds as) S1) P) : Wp (evE T (.mk c es ds) ρ S) P := by
  rw [evE, if_pos hh, wp_bnd]
  first | exact h | exact .ok h | exact wp_mono h fun _ _ z => .ok z
theorem x_meth {o : ME} {m : Str} {es : List ME} {ds : List D} (h : Wp (evE T o ρ S) fun x S1 => ClsK x S1 fun c => T.has (.me c m) = true ∧ Wp (evL T es ρ S1) fun as S2 => Wp (T.call (.me c m) (x :: place ds as) S2) P) : Wp (evE T (.meth o m es ds) ρ S) P := by
  rw [ev_meth, wp_bnd]
  refine wp_mono h fun x S1 ⟨c, h1, h2, k⟩ => ?_
  rw [h1]
  show Wp ((if T.has (.me c m) = true then bnd (evL T es ρ) (fun as => T.call (.me c m) (x :: place ds as)) S1 else .err)) P
  rw [if_pos h2, wp_bnd]
  first | exact k | exact .ok k | exact wp_mono k fun _ _ z => .ok z
theorem x_bm {o : ME} {m : Bm} {es : List ME} (h : Wp (evE T o ρ S) fun x S1 => BkK x S1 m (Wp (evL T es ρ S1) fun as S2 => Wp (callBm m x as S2) P)) : Wp (evE T (.bm o m es) ρ S) P := by
  rw [evE, wp_bnd]
  · refine wp_mono h fun x S1 ⟨k, h1, h2, q⟩ => ?_
    rw [h1]
    show Wp (if bmOk k m = true then bnd (evL T es ρ) (fun as => callBm m x as) S1 else .err) P
    rw [if_pos h2, wp_bnd]
    first | exact q | exact .ok q | exact wp_mono q fun _ _ z => .ok z
theorem x_bf {f : Bf} {es : List ME} (h : Wp (evL T es ρ S) fun as S1 => BfK f as S1 P) : Wp (evE T (.bf f es) ρ S) P := by
  rw [evE, wp_bnd]
  refine wp_mono h fun as S1 ⟨ds, r, h1, h2, k⟩ => ?_
  rw [wp_bnd, wp_looks h1, wp_lift h2]
  first | exact k | exact .ok k | exact wp_mono k fun _ _ z => .ok z
theorem x_ob {f : Bf} {m : Str} {a : ME} (h : Wp (evE T a ρ S) fun x S1 => OclK x S1 (fun c => T.has (.me c m) = true ∧ Wp (T.call (.me c m) [x] S1) fun v S2 => BackK f v S2 P) (BfK f [x] S1 P)) : Wp (evE T (.ob f m a) ρ S) P := by
  rw [ev_ob, wp_bnd]
  refine wp_mono h fun x S1 k => ?_
  unfold OclK at k
  cases c1 : clsOf S1 x with
  | none =>
    rw [c1] at k
    obtain ⟨ds, r, h1, h2, k⟩ := k
    show Wp (bnd (look1 x) (fun d => lift (bfD f [d])) S1) P
    rw [wp_bnd]
    cases e : x.look S1 with
    | none => simp [looks, e] at h1
    | some d =>
      have : ds = [d] := by simp [looks, e] at h1; exact h1.symm
      subst this
      rw [wp_look e, wp_lift h2]
      first | exact k | exact .ok k | exact wp_mono k fun _ _ z => .ok z
  | some c =>
    rw [c1] at k
    obtain ⟨h1, h2⟩ := k
    show Wp (if T.has (.me c m) = true then bnd (T.call (.me c m) [x]) (fun v => bnd (look1 v) fun d => lift (backD f d)) S1 else .err) P
    rw [if_pos h1, wp_bnd]
    refine wp_mono h2 fun v S2 ⟨d, r, e1, e2, k⟩ => ?_
    rw [wp_bnd, wp_look e1, wp_lift e2]
    first | exact k | exact .ok k | exact wp_mono k fun _ _ z => .ok z
theorem x_isi {a : ME} {ts : List Ty} (h : Wp (evE T a ρ S) fun x S1 => IsiK x ts S1 fun b => P (.v (.d (.bl b))) S1) : Wp (evE T (.isi a ts) ρ S) P := by
  rw [evE, wp_bnd]
  refine wp_mono h fun x S1 ⟨b, e, k⟩ => ?_
  cases c1 : clsOf S1 x with
  | none =>
    rw [c1] at e
    obtain ⟨d, e1, e2⟩ := Option.map_eq_some_iff.mp e
    show Wp (lift ((x.look S1).map fun d => bv (ts.any fun t => tyOk t d == some true)) S1) P
    rw [e1, Option.map_some, e2]
    first | exact k | exact .ok k | exact wp_mono k fun _ _ z => .ok z
  | some c =>
    rw [c1] at e
    cases e
    first | exact k | exact .ok k | exact wp_mono k fun _ _ z => .ok z
theorem x_attr {o : ME} {f : Nat} (h : Wp (evE T o ρ S) fun x S1 => AttrK x f S1 P) : Wp (evE T (.attr o f) ρ S) P := by
  rw [evE, wp_bnd]
  refine wp_mono h fun x S1 ⟨y, e, k⟩ => ?_
  rw [e]
  first | exact k | exact .ok k | exact wp_mono k fun _ _ z => .ok z
theorem x_comp {elt cond : ME} {tg : Tg} {own : List Nat} {it : It} (h : Wp (evI T it ρ S) fun w S1 => Wp (compNew (fun n => compWalk (compStep T elt tg own cond ρ) n w) S1) P) : Wp (evE T (.comp elt tg own it cond) ρ S) P := by
  rw [evE, wp_bnd]
  first | exact h | exact .ok h | exact wp_mono h fun _ _ z => .ok z
theorem step_c {elt cond : ME} {tg : Tg} {own : List Nat} {x : D} {ρ0 ρ' : Env} {P : Option D → St → Prop} (w : WipE ρ own ρ0) (t : TgE tg x ρ0 ρ') (h : Wp (evE T cond ρ' S) fun v S1 => TstK v S1 fun b => IfK b (Wp (evE T elt ρ' S1) fun v S2 => DatK v fun d => P (some d) S2) (P none S1)) : Wp (compStep T elt tg own cond ρ x S) P := by
  unfold compStep
  rw [w.eq, t.eq]
  show Wp (bnd _ _ _) _
  rw [wp_bnd]
  refine x_test (Q := fun b S1 => Wp ((if b = true then bnd (evE T elt ρ') fun v => lift (v.toD.map some) else ret none) S1) P) (wp_mono h fun x S1 ⟨d, k, h1, h2, q⟩ => ⟨d, k, h1, h2, ?_⟩)
  cases k
  · first | exact q | exact .ok q | exact wp_mono q fun _ _ z => .ok z
  · show Wp (bnd _ _ _) _
    rw [wp_bnd]
    refine wp_mono q fun v S2 ⟨d, e, k⟩ => ?_
    rw [e]
    first | exact k | exact .ok k | exact wp_mono k fun _ _ z => .ok z
theorem step_t {elt : ME} {tg : Tg} {own : List Nat} {x : D} {ρ0 ρ' : Env} {P : Option D → St → Prop} (w : WipE ρ own ρ0) (t : TgE tg x ρ0 ρ') (h : Wp (evE T elt ρ' S) fun v S2 => DatK v fun d => P (some d) S2) : Wp (compStep T elt tg own (.c (.bl true)) ρ x S) P := step_c w t (x_c (tst_b h))
theorem l_nil {P : List RV → St → Prop} (k : P [] S) : Wp (evL T [] ρ S) P := by rw [evL]; first | exact k | exact .ok k | exact wp_mono k fun _ _ z => .ok z
theorem l_cons {e : ME} {es : List ME} {P : List RV → St → Prop} (h : Wp (evE T e ρ S) fun x S1 => Wp (evL T es ρ S1) fun xs S2 => P (x :: xs) S2) : Wp (evL T (e :: es) ρ S) P := by
  rw [evL, wp_bnd]
  refine wp_mono h fun x S1 h => ?_
  rw [wp_bnd]
  first | exact h | exact .ok h | exact wp_mono h fun _ _ z => .ok z
theorem i_e {e : ME} {P : Walk → St → Prop} (h : Wp (evE T e ρ S) fun x S1 => WalkK x S1 P) : Wp (evI T (.e e) ρ S) P := by
  rw [evI, wp_bnd]
  refine wp_mono h fun x S1 ⟨w, e, k⟩ => ?_
  rw [e]
  first | exact k | exact .ok k | exact wp_mono k fun _ _ z => .ok z
theorem i_range {es : List ME} {P : Walk → St → Prop} (h : Wp (evL T es ρ S) fun as S1 => RangeK as S1 P) : Wp (evI T (.range es) ρ S) P := by
  rw [evI, wp_bnd]
  refine wp_mono h fun x S1 ⟨ds, r, e, e2, k⟩ => ?_
  rw [wp_bnd, wp_looks e, e2]
  first | exact k | exact .ok k | exact wp_mono k fun _ _ z => .ok z
theorem i_zip {es : List ME} {P : Walk → St → Prop} (h : Wp (evL T es ρ S) fun as S1 => ZipK as S1 P) : Wp (evI T (.zip es) ρ S) P := by
  rw [evI, wp_bnd]
  refine wp_mono h fun as S1 ⟨x, y, r, e, e2, k⟩ => ?_
  rw [wp_bnd, wp_lift e]
  show Wp (lift ((zipO x y).map .row) S1) P
  rw [e2]
  first | exact k | exact .ok k | exact wp_mono k fun _ _ z => .ok z
end
/-! ### statements -/
section
variable {T : Tx} {ρ : Env} {S : St} {P : Fl × Env → St → Prop}
theorem s_asg {i : Nat} {c : Bool} {e : ME} (h : Wp (evE T e ρ S) fun v S1 => LayK c v S1 fun x S2 => SetK i x ρ fun ρ' => P (.nx, ρ') S2) : Wp (evS T (.asg i c e) ρ S) P := by
  rw [evS, wp_bnd]
  refine wp_mono h fun v S1 h => ?_
  rw [wp_bnd]
  refine wp_mono h fun x S2 ⟨ρ', e, k⟩ => ?_
  rw [wp_bnd, wp_lift e]
  first | exact k | exact .ok k | exact wp_mono k fun _ _ z => .ok z
theorem s_asgT {ts : List Tg} {e : ME} (h : Wp (evE T e ρ S) fun v S1 => DatK v fun d => TgK (.tup ts) d ρ fun ρ' => P (.nx, ρ') S1) : Wp (evS T (.asgT ts e) ρ S) P := by
  rw [evS, wp_bnd]
  refine wp_mono h fun v S1 ⟨d, e1, ρ', e2, k⟩ => ?_
  rw [wp_bnd, wp_lift e1, wp_bnd, wp_lift e2]
  first | exact k | exact .ok k | exact wp_mono k fun _ _ z => .ok z
def ParK (is : List (Nat × Bool)) (vs : List RV) (ρ : Env) (S : St) (P : Fl × Env → St → Prop) : Prop := Wp (parSet is vs ρ S) fun ρ' S' => P (.nx, ρ') S'
theorem s_par {is : List (Nat × Bool)} {es : List ME} (h : Wp (evL T es ρ S) fun vs S1 => ParK is vs ρ S1 P) : Wp (evS T (.par is es) ρ S) P := by
  rw [evS, wp_bnd]
  refine wp_mono h fun vs S1 h => ?_
  rw [wp_bnd]
  first | exact h | exact .ok h | exact wp_mono h fun _ _ z => .ok z
theorem par_nil (k : P (.nx, ρ) S) : ParK [] [] ρ S P := .ok k
theorem par_cons {i : Nat} {c : Bool} {is : List (Nat × Bool)} {v : RV} {vs : List RV} (h : LayK c v S fun x S1 => SetK i x ρ fun ρ' => ParK is vs ρ' S1 P) : ParK ((i, c) :: is) (v :: vs) ρ S P := by
  unfold ParK parSet
  rw [wp_bnd]
  refine wp_mono h fun x S1 ⟨ρ', e, k⟩ => ?_
  rw [wp_bnd, wp_lift e]
  first | exact k | exact .ok k | exact wp_mono k fun _ _ z => .ok z
def PutK (o i : RV) (x : Val) (S : St) (R : St → Prop) : Prop := Wp (putItem o i (.v x) S) fun _ S' => R S'
theorem s_subA {o i e : ME} (h : Wp (evE T e ρ S) fun x S1 => LayK false x S1 fun x' S1' => Wp (evE T o ρ S1') fun ov S2 => Wp (evE T i ρ S2) fun iv S3 => PutK ov iv x' S3 fun S4 => P (.nx, ρ) S4) : Wp (evS T (.subA o i e) ρ S) P := by
  rw [evS, wp_bnd]
  refine wp_mono h fun x S1 h => ?_
  unfold LayK at h
  have e1 : lay false x S1 = lift x.frz S1 := by cases x <;> rfl
  rw [e1] at h
  rw [wp_bnd]
  refine wp_mono h fun x' S1' h => ?_
  rw [wp_bnd]
  refine wp_mono h fun ov S2 h => ?_
  rw [wp_bnd]
  refine wp_mono h fun iv S3 h => ?_
  rw [wp_bnd]
  exact wp_mono h fun _ S4 k => .ok k
theorem s_aug {i : Nat} {op : Operator} {e : ME} {x : D} (e1 : ρ[i]? = some (some (.d x))) (h : Wp (evE T e ρ S) fun y S1 => ∃ d z, y.look S1 = some d ∧ augD op x d = some z ∧ SetK i (.d z) ρ fun ρ' => P (.nx, ρ') S1) : Wp (evS T (.aug i op e) ρ S) P := by
  rw [evS, e1]
  show Wp (bnd _ _ _) _
  rw [wp_bnd]
  refine wp_mono h fun y S1 ⟨d, z, h1, h2, ρ', e, k⟩ => ?_
  rw [wp_bnd, wp_look h1, wp_bnd, wp_lift h2, wp_bnd, wp_lift e]
  first | exact k | exact .ok k | exact wp_mono k fun _ _ z => .ok z
def PutA (o : RV) (f : Nat) (x : Val) (S : St) (R : St → Prop) : Prop := Wp (putAttr o f x S) fun _ S' => R S'
theorem s_attrA {o e : ME} {f : Nat} {c : Bool} (h : Wp (evE T e ρ S) fun v S1 => LayK c v S1 fun x S2 => Wp (evE T o ρ S2) fun ov S3 => PutA ov f x S3 fun S4 => P (.nx, ρ) S4) : Wp (evS T (.attrA o f c e) ρ S) P := by
  rw [evS, wp_bnd]
  refine wp_mono h fun v S1 h => ?_
  rw [wp_bnd]
  refine wp_mono h fun x S2 h => ?_
  rw [wp_bnd]
  refine wp_mono h fun ov S3 h => ?_
  rw [wp_bnd]
  exact wp_mono h fun _ S4 k => .ok k
theorem s_ex {e : ME} (h : Wp (evE T e ρ S) fun _ S1 => P (.nx, ρ) S1) : Wp (evS T (.ex e) ρ S) P := by
  rw [evS, wp_bnd]
  first | exact h | exact .ok h | exact wp_mono h fun _ _ z => .ok z
theorem s_ret {e : ME} (h : Wp (evE T e ρ S) fun v S1 => P (.ret v, ρ) S1) : Wp (evS T (.ret e) ρ S) P := by
  rw [evS, wp_bnd]
  first | exact h | exact .ok h | exact wp_mono h fun _ _ z => .ok z
theorem s_if {t : ME} {a b : List MS} (h : Wp (evE T t ρ S) fun v S1 => TstK v S1 fun k => IfK k (Wp (evB T a ρ S1) P) (Wp (evB T b ρ S1) P)) : Wp (evS T (.ifs t a b) ρ S) P := by
  rw [evS, wp_bnd]
  refine x_test (Q := fun k S1 => Wp ((if k = true then evB T a ρ else evB T b ρ) S1) P) (wp_mono h fun x S1 ⟨d, k, h1, h2, q⟩ => ⟨d, k, h1, h2, ?_⟩)
  cases k
  · first | exact q | exact .ok q | exact wp_mono q fun _ _ z => .ok z
  · first | exact q | exact .ok q | exact wp_mono q fun _ _ z => .ok z
theorem s_loop {tg : Tg} {it : It} {body : List MS} (h : Wp (evI T it ρ S) fun w S1 => Wp (forWalk (forStep T tg body) w ρ S1) fun p S2 => EndL p S2 P) : Wp (evS T (.loop tg it body) ρ S) P := by
  rw [evS, wp_bnd]
  refine wp_mono h fun w S1 h => ?_
  rw [wp_bnd]
  refine wp_mono h fun p S2 h => ?_
  obtain ⟨o, ρ'⟩ := p
  rcases o with _ | _ | v <;> first | exact h | exact .ok h | exact wp_mono h fun _ _ z => .ok z
theorem step_f {tg : Tg} {body : List MS} {x : D} {ρ' : Env} {P : Option (Option RV) × Env → St → Prop} (t : TgE tg x ρ ρ') (h : Wp (evB T body ρ' S) fun p S1 => TurnK p S1 P) : Wp (forStep T tg body x ρ S) P := by
  unfold forStep
  rw [t.eq]
  show Wp (turnOf _ _) _
  unfold turnOf
  rw [wp_bnd]
  refine wp_mono h fun p S1 h => ?_
  obtain ⟨o, ρ'⟩ := p
  cases o <;> first | exact h | exact .ok h | exact wp_mono h fun _ _ z => .ok z
theorem s_whil {t : ME} {body : List MS} (h : Wp (whileLoop (fun ρ => testOf (evE T t ρ)) (fun ρ => turnOf (evB T body ρ)) turns ρ S) fun p S2 => EndL p S2 P) : Wp (evS T (.whil t body) ρ S) P := by
  rw [evS, wp_bnd]
  refine wp_mono h fun p S2 h => ?_
  obtain ⟨o, ρ'⟩ := p
  rcases o with _ | _ | v <;> first | exact h | exact .ok h | exact wp_mono h fun _ _ z => .ok z
theorem s_pass (k : P (.nx, ρ) S) : Wp (evS T .pass ρ S) P := by rw [evS]; first | exact k | exact .ok k | exact wp_mono k fun _ _ z => .ok z
theorem s_brk (k : P (.brk, ρ) S) : Wp (evS T .brk ρ S) P := by rw [evS]; first | exact k | exact .ok k | exact wp_mono k fun _ _ z => .ok z
theorem s_cont (k : P (.cont, ρ) S) : Wp (evS T .cont ρ S) P := by rw [evS]; first | exact k | exact .ok k | exact wp_mono k fun _ _ z => .ok z
theorem b_nil (k : P (.nx, ρ) S) : Wp (evB T [] ρ S) P := by rw [evB]; first | exact k | exact .ok k | exact wp_mono k fun _ _ z => .ok z
theorem b_cons {s : MS} {ss : List MS} (h : Wp (evS T s ρ S) fun p S1 => SeqK T ss p S1 P) : Wp (evB T (s :: ss) ρ S) P := by
  rw [evB, wp_bnd]
  refine wp_mono h fun p S1 h => ?_
  obtain ⟨o, ρ'⟩ := p
  cases o <;> first | exact h | exact .ok h | exact wp_mono h fun _ _ z => .ok z
end
theorem b_app {T : Tx} {ss tt : List MS} : ∀ {ρ : Env} {S : St} {P : Fl × Env → St → Prop}, Wp (evB T ss ρ S) (fun p S1 => SeqK T tt p S1 P) → Wp (evB T (ss ++ tt) ρ S) P := by
  induction ss with
  | nil =>
    intro ρ S P h
    rw [evB] at h
    exact h.out
  | cons s ss ih =>
    intro ρ S P h
    refine b_cons ?_
    rw [evB, wp_bnd] at h
    refine wp_mono h fun p S1 h => ?_
    obtain ⟨o, ρ'⟩ := p
    cases o
    · exact ih h
    all_goals exact (show Wp (.ok _ _) _ from h).out
/-! ### a def's call -/
inductive BindE : List Bool → List RV → St → List Val → St → Prop
  | nil {S : St} : BindE [] [] S [] S
  | v {c : Bool} {cs : List Bool} {x : Val} {vs : List RV} {xs : List Val} {S S' : St} : BindE cs vs S xs S' → BindE (c :: cs) (.v x :: vs) S (x :: xs) S'
  | lst {cs : List Bool} {ds : List D} {vs : List RV} {xs : List Val} {S S' : St} : BindE cs vs S xs S' → BindE (false :: cs) (.tmp (.lst ds) :: vs) S (.d (.lst ds) :: xs) S'
  | dic {cs : List Bool} {ds : List (D × D)} {vs : List RV} {xs : List Val} {S S' : St} : BindE cs vs S xs S' → BindE (false :: cs) (.tmp (.dic ds) :: vs) S (.d (.dic ds) :: xs) S'
  | cell {cs : List Bool} {o : MObj} {vs : List RV} {xs : List Val} {S S' : St} : BindE cs vs ⟨S.cells ++ [o], S.esc⟩ xs S' → BindE (true :: cs) (.tmp o :: vs) S (.r S.cells.length :: xs) S'
theorem BindE.eq {cs : List Bool} {vs : List RV} {S S' : St} {xs : List Val} (h : BindE cs vs S xs S') : binds cs vs S = .ok xs S' := by
  induction h with
  | nil => rfl
  | @v c cs x vs xs S S' _ ih =>
    unfold binds
    rw [go_ok (m := lay c (.v x)) (a := x) (S' := S) (by cases c <;> rfl), go_ok ih]
    rfl
  | @lst cs ds vs xs S S' _ ih =>
    unfold binds
    rw [go_ok (m := lay false (.tmp (.lst ds))) (a := .d (.lst ds)) (S' := S) rfl, go_ok ih]
    rfl
  | @dic cs ds vs xs S S' _ ih =>
    unfold binds
    rw [go_ok (m := lay false (.tmp (.dic ds))) (a := .d (.dic ds)) (S' := S) rfl, go_ok ih]
    rfl
  | @cell cs o vs xs S S' _ ih =>
    unfold binds
    rw [go_ok (m := lay true (.tmp o)) (a := .r S.cells.length) (S' := ⟨S.cells ++ [o], S.esc⟩) rfl, go_ok ih]
    rfl
theorem body_k {T : Tx} {ps : List Bool} {n : Nat} {b : List MS} {as : List RV} {S S1 : St} {xs : List Val} {ρ : Env} {P : RV → St → Prop} (h1 : BindE ps as S xs S1) (h2 : EnvE n xs ρ) (h : Wp (evB T b ρ S1) fun p S2 => EndK p S2 P) : Wp (bodyRun T ⟨ps, n, b⟩ as S) P := by
  unfold bodyRun
  rw [wp_bnd, h1.eq]
  rw [wp_ok]
  show Wp (bnd (evB T b (xs.map some ++ List.replicate (n - xs.length) none)) _ _) _
  rw [h2.eq, wp_bnd]
  refine wp_mono h fun p S2 h => ?_
  obtain ⟨o, ρ'⟩ := p
  cases o <;> first | exact .ok h | exact (show False from h).elim
/-- a def that leaves all as it was, by its body -/
theorem pure_k {X : Txt} {n : Nat} {id : FId} {ps : List Bool} {m : Nat} {b : List MS} {as : List RV} {S S1 : St} {xs : List Val} {ρ : Env} {w : RV} (t : X.defs id = some ⟨ps, m, b⟩) (h1 : BindE ps as ⟨S.cells, []⟩ xs S1) (h2 : EnvE m xs ρ)
    (h : Wp (evB (X.at n) b ρ S1) fun p S2 => EndK p S2 fun v S' => Leaves S v S' w ∧ S'.cells.take S.cells.length = S.cells) : (X.at (n + 1)).call id as S = .ok w S := by
  rw [at_call X t]
  exact def_pure (body_k h1 h2 h)
theorem call_k {X : Txt} {n : Nat} {id : FId} {ps : List Bool} {m : Nat} {b : List MS} {as : List RV} {S S1 : St} {xs : List Val} {ρ : Env} {P : RV → St → Prop} (t : X.defs id = some ⟨ps, m, b⟩) (h1 : BindE ps as ⟨S.cells, []⟩ xs S1) (h2 : EnvE m xs ρ)
    (h : Wp (evB (X.at n) b ρ S1) fun p S2 => EndK p S2 fun v S' => ∃ w, Leaves S v S' w ∧ P w ⟨S'.cells.take S.cells.length, S.esc⟩) : Wp ((X.at (n + 1)).call id as S) P := by
  rw [at_call X t]
  exact wp_def (body_k h1 h2 h)
end Pk
namespace Pk
open PySem
section
variable {a b : RV} {x y : D} {S : St} {P : RV → St → Prop} {ds : List D}
theorem cmp_isT (h : noneD (b.look S) = true) (e : a.isNon = true) (q : P (.v (.d (.bl true))) S) : CmpK .Is a b S P := cmp_is h (by rw [e]; exact q)
theorem cmp_isF (h : noneD (b.look S) = true) (e : a.isNon = false) (q : P (.v (.d (.bl false))) S) : CmpK .Is a b S P := cmp_is h (by rw [e]; exact q)
theorem cmp_isnT (h : noneD (b.look S) = true) (e : a.isNon = false) (q : P (.v (.d (.bl true))) S) : CmpK .IsNot a b S P := cmp_isn h (by rw [e]; exact q)
theorem cmp_isnF (h : noneD (b.look S) = true) (e : a.isNon = true) (q : P (.v (.d (.bl false))) S) : CmpK .IsNot a b S P := cmp_isn h (by rw [e]; exact q)
theorem bf_lst_t (k : P (.tmp (.lst ds)) S) : BfK .list [.v (.d (.tup ds))] S P := bf_k rfl rfl k
theorem bf_lst_l (k : P (.tmp (.lst ds)) S) : BfK .list [.v (.d (.lst ds))] S P := bf_k rfl rfl k
theorem bf_tup_l (k : P (.v (.d (.tup ds))) S) : BfK .tuple [.tmp (.lst ds)] S P := bf_k rfl rfl k
theorem back_r {s : Str} (k : P (.v (.d (.str s))) S) : BackK .repr (.v (.d (.str s))) S P := back_k rfl rfl k
theorem back_s {s : Str} (k : P (.v (.d (.str s))) S) : BackK .str (.v (.d (.str s))) S P := back_k rfl rfl k
theorem bin_addS {x y : Str} (h : x.length + y.length ≤ line) (k : P (.v (.d (.str (x ++ y)))) S) : BinK .Add (.v (.d (.str x))) (.v (.d (.str y))) S P := bin_k rfl rfl (if_pos h) k
theorem bf_tup_d (k : P (.v (.d (.tup ds))) S) : BfK .tuple [.v (.d (.lst ds))] S P := bf_k rfl rfl k
theorem bf_tup_t (k : P (.v (.d (.tup ds))) S) : BfK .tuple [.v (.d (.tup ds))] S P := bf_k rfl rfl k
theorem bf_len_l (k : P (.v (.d (.int ds.length))) S) : BfK .len [.v (.d (.lst ds))] S P := bf_k rfl rfl k
theorem bf_len_t (k : P (.v (.d (.int ds.length))) S) : BfK .len [.v (.d (.tup ds))] S P := bf_k rfl rfl k
theorem bin_addI {i j : Int} (k : P (.v (.d (.int (i + j)))) S) : BinK .Add (.v (.d (.int i))) (.v (.d (.int j))) S P := bin_k rfl rfl rfl k
theorem bin_subI {i j : Int} (k : P (.v (.d (.int (i - j)))) S) : BinK .Sub (.v (.d (.int i))) (.v (.d (.int j))) S P := bin_k rfl rfl rfl k
end
theorem all_fm {α : Type} (f : α → Bool) (l : List α) : bfD .all [.lst (l.filterMap fun x => some (.bl (f x)))] = some (.v (.d (.bl (l.all f)))) := by
  rw [bf_all, fm_some, bools_map, Option.map_some, all_map]
  rfl
theorem any_fm {α : Type} (f : α → Bool) (l : List α) : bfD .any [.lst (l.filterMap fun x => some (.bl (f x)))] = some (.v (.d (.bl (l.any f)))) := by
  rw [bf_any, fm_some, bools_map, Option.map_some, any_map]
  rfl
theorem all_yes_k {α : Type} {l : List α} {S : St} {P : RV → St → Prop} (k : P (.v (.d (.bl true))) S) : BfK .all [.tmp (.lst (l.filterMap fun _ => some (.bl true)))] S P := bf_k rfl (by rw [all_fm (fun _ => true), all_true]) k
/-- a comprehension over data whose turns change nothing -/
theorem comp_p {step : D → M (Option D)} {f : D → Option D} {ds : List D} {S : St} {P : RV → St → Prop} (h : ∀ x ∈ ds, ∀ acc : List D, Wp (step x ⟨S.cells ++ [.lst acc], S.esc⟩) fun o S' => o = f x ∧ S' = ⟨S.cells ++ [.lst acc], S.esc⟩) (hl : ds.length ≤ line) (k : P (.tmp (.lst (ds.filterMap f))) S) :
    Wp (compNew (fun n => compWalk step n (.row ds)) S) P := use (comp_pure (fun x m acc => ok_of_wp (h x m acc)) hl) k
theorem comp_c {step : D → M (Option D)} {f : D → Option D} {i : Nat} {ds : List D} {S : St} {P : RV → St → Prop} (hi : S.cells[i]? = some (.lst ds)) (h : ∀ x ∈ ds, ∀ acc : List D, Wp (step x ⟨S.cells ++ [.lst acc], S.esc⟩) fun o S' => o = f x ∧ S' = ⟨S.cells ++ [.lst acc], S.esc⟩) (hl : ds.length < turns) (k : P (.tmp (.lst (ds.filterMap f))) S) :
    Wp (compNew (fun n => compWalk step n (.cell i)) S) P := use (comp_pureC hi (fun x m acc => ok_of_wp (h x m acc)) hl) k
theorem pen_k {X : Txt} {n : Nat} {id : FId} {ps : List Bool} {m : Nat} {b : List MS} {as : List RV} {S S1 : St} {xs : List Val} {ρ : Env} {k : Nat} {G : RV → Prop} (hp : HasPen k S) (t : X.defs id = some ⟨ps, m, b⟩) (h1 : BindE ps as ⟨S.cells, []⟩ xs S1) (h2 : EnvE m xs ρ)
    (h : Wp (evB (X.at n) b ρ S1) fun p S2 => EndK p S2 fun v S' => ∃ w S3 D', S' = ⟨S3.cells ++ D', []⟩ ∧ PenS k ⟨S.cells, []⟩ S3 ∧ Leaves S v S' w ∧ G w) : Wp ((X.at (n + 1)).call id as S) fun w S' => PenS k S S' ∧ G w := by
  rw [at_call X t]
  exact pen_def hp (body_k h1 h2 h)
theorem bf_len_s {s : Str} {S : St} {P : RV → St → Prop} (h : s.length ≤ line) (k : P (.v (.d (.int s.length))) S) : BfK .len [.v (.d (.str s))] S P := bf_k rfl (if_pos h) k
theorem pure_w {S S' : St} {v : RV} {C : List MObj} {d : D} (e1 : v = .v (.d d)) (e2 : S' = ⟨S.cells ++ C, []⟩) : Leaves S v S' (.v (.d d)) ∧ S'.cells.take S.cells.length = S.cells := by
  subst e1 e2
  exact ⟨leaves_d rfl, by simp⟩
theorem pure_d {S : St} {d : D} : Leaves S (.v (.d d)) ⟨S.cells, []⟩ (.v (.d d)) ∧ (⟨S.cells, []⟩ : St).cells.take S.cells.length = S.cells := ⟨leaves_d rfl, List.take_length⟩
theorem pure_u {S : St} {ds : List D} : Leaves S (.tmp (.lst ds)) ⟨S.cells, []⟩ (.tmp (.lst ds)) ∧ (⟨S.cells, []⟩ : St).cells.take S.cells.length = S.cells := ⟨leaves_u rfl, List.take_length⟩
end Pk
end
section
set_option Elab.async false
set_option linter.all false
set_option maxRecDepth 100000
set_option maxHeartbeats 2000000
/-! Names, rows of names, lines: plain. -/
namespace Pk
open PySem
def NameOk (s : Str) : Prop := 1 ≤ s.length ∧ s.length ≤ 8 ∧ ∀ c ∈ s.cps.toList, 97 ≤ c ∧ c ≤ 122
theorem letter_in {c : Nat} (h1 : 97 ≤ c) (h2 : c ≤ 122) : strIn ⟨#[c]⟩ "abcdefghijklmnopqrstuvwxyz" = true := by
  have key : ∀ k : Fin 26, strIn ⟨#[k.val + 97]⟩ "abcdefghijklmnopqrstuvwxyz" = true := by decide +kernel
  have := key ⟨c - 97, by omega⟩
  rwa [show c - 97 + 97 = c by omega] at this
def lt (a b : Str) : Prop := a.cps.toList < b.cps.toList
def sD (ns : List Str) : List D := ns.map .str
abbrev tD (ns : List Str) : D := .tup (sD ns)
theorem zip_rise : ∀ {ns : List Str}, ns.Pairwise lt → ∀ x ∈ zipD (sD ns) ((sD ns).drop 1), ∃ a b, x = .tup [.str a, .str b] ∧ lt a b
  | [], _, x, m => by cases m
  | [a], _, x, m => by cases m
  | a :: b :: r, h, x, m => by
    rcases List.mem_cons.mp (show x ∈ D.tup [.str a, .str b] :: zipD (sD (b :: r)) ((sD (b :: r)).drop 1) from m) with rfl | m
    · exact ⟨a, b, rfl, (List.pairwise_cons.mp h).1 b List.mem_cons_self⟩
    · exact zip_rise (List.pairwise_cons.mp h).2 x m
theorem zipD_len : ∀ (xs ys : List D), (zipD xs ys).length ≤ xs.length
  | [], _ => Nat.zero_le _
  | _ :: _, [] => Nat.zero_le _
  | _ :: xs, _ :: ys => by
    show (zipD xs ys).length + 1 ≤ xs.length + 1
    have := zipD_len xs ys
    omega
structure Ln where
  ms : List Str
  ns : List Str
structure LnOk (l : Ln) : Prop where
  m1 : l.ms.Pairwise lt
  n1 : l.ns.Pairwise lt
  m2 : ∀ s ∈ l.ms, NameOk s
  n2 : ∀ s ∈ l.ns, NameOk s
  m3 : l.ms.length ≤ 3
  n3 : 1 ≤ l.ns.length ∧ l.ns.length ≤ 4
def lnD (l : Ln) : D := .tup [tD l.ms, tD l.ns]
theorem name_ok {s : Str} (h : NameOk s) : okD (.str s) = true := by
  unfold okD
  show (true && SeqAt.shaped (.str s)) = true
  have : PyData.strOk s = true := by
    unfold PyData.strOk
    rw [← Array.all_toList, List.all_eq_true]
    intro c hc
    have := (h.2.2 c hc).2
    exact decide_eq_true (by omega)
  show (true && (PyData.canLay0 (.str s) && decide (PyData.depth (.str s) ≤ 64))) = true
  rw [show PyData.canLay0 (.str s) = PyData.strOk s by simp [PyData.canLay0], this]
  simp [PyData.depth]
theorem okD_lst {ds : List D} (h : ∀ d ∈ ds, okD d = true ∧ d.pd.depth ≤ 50) : okD (.lst ds) = true := by
  have key : ∀ {ds : List D}, (∀ d ∈ ds, okD d = true ∧ d.pd.depth ≤ 50) → flats ds = true ∧ PyData.canLayAll0 (pds ds) = true ∧ PyData.depthAll (pds ds) ≤ 50 := by
    intro ds
    induction ds with
    | nil => intro _; simp [flats, pds, PyData.canLayAll0, PyData.depthAll]
    | cons d r ih =>
      intro h
      obtain ⟨i1, i2, i3⟩ := ih fun x m => h x (List.mem_cons_of_mem _ m)
      obtain ⟨g1, g2⟩ := h d List.mem_cons_self
      obtain ⟨g3, g4⟩ := Bool.and_eq_true_iff.mp g1
      have g5 := SeqAt.canLay_of_shaped g4
      simp only [flats, pds, PyData.canLayAll0, PyData.depthAll, g3, i1, g5, i2, Bool.and_self, true_and]
      omega
  obtain ⟨a, b, c⟩ := key h
  show (flats ds && (PyData.canLay0 (.list (pds ds)) && decide (PyData.depth (.list (pds ds)) ≤ 64))) = true
  rw [a, show PyData.canLay0 (.list (pds ds)) = PyData.canLayAll0 (pds ds) by simp [PyData.canLay0], b]
  have e : PyData.depth (.list (pds ds)) = PyData.depthAll (pds ds) + 1 := by simp [PyData.depth]
  rw [e]
  simp only [Bool.true_and, decide_eq_true_eq]
  omega
theorem okD_tup {ds : List D} (h : okD (.lst ds) = true) : okD (.tup ds) = true := h
theorem ok_sD {ns : List Str} (h : ∀ s ∈ ns, NameOk s) : okD (.lst (sD ns)) = true := okD_lst fun d m => by
  obtain ⟨s, hs, rfl⟩ := List.mem_map.mp m
  exact ⟨name_ok (h s hs), by simp [D.pd, PyData.depth]⟩
def inB (x : Str) (ns : List Str) : Bool := ns.any fun y => y == x
def subB (a b : List Str) : Bool := a.all fun x => inB x b
theorem in_sD {x : Str} {ns : List Str} (hx : NameOk x) (h : ∀ s ∈ ns, NameOk s) : inD (.str x) (sD ns) = some (inB x ns) := by
  unfold inD
  rw [if_pos ⟨name_ok hx, ok_sD h⟩]
  unfold sD inB
  rw [List.any_map]
  rfl
theorem cm_inT {d : D} {ds : List D} (h : ∀ s t, ¬ (d = .str s ∧ (D.tup ds) = .str t)) : cmpD .In d (.tup ds) = inD d ds := by
  cases d <;> rfl
theorem cm_inTS {s : Str} {ds : List D} : cmpD .In (.str s) (.tup ds) = inD (.str s) ds := rfl
theorem cm_niTS {s : Str} {ds : List D} : cmpD .NotIn (.str s) (.tup ds) = (inD (.str s) ds).map (!·) := rfl
/-- rows of names as data -/
def nD (rows : List (List Str)) : List D := rows.map tD
def namesOf : D → List Str
  | .tup ds => (strsOf ds).getD []
  | _ => []
theorem strs_sD : ∀ ns : List Str, strsOf (sD ns) = some ns
  | [] => rfl
  | x :: r => by
    show (strsOf (sD r)).map (x :: ·) = _
    rw [strs_sD r]
    rfl
theorem names_tD (ns : List Str) : namesOf (tD ns) = ns := by
  show (strsOf (sD ns)).getD [] = ns
  rw [strs_sD]
  rfl
structure RowOk (ns : List Str) : Prop where
  up : ns.Pairwise lt
  ok : ∀ s ∈ ns, NameOk s
  l1 : 1 ≤ ns.length
  l4 : ns.length ≤ 4
theorem sD_inj {a b : List Str} (h : sD a = sD b) : a = b := by
  have := congrArg strsOf h
  rw [strs_sD, strs_sD] at this
  exact Option.some.inj this
theorem tD_inj {a b : List Str} (h : tD a = tD b) : a = b := by
  injection h with h
  exact sD_inj h
theorem key_sD : ∀ ns : List Str, keysOk (sD ns) = true
  | [] => rfl
  | _ :: r => key_sD r
theorem key_tD (ns : List Str) : (tD ns).key = true := key_sD ns
theorem depth_sD : ∀ ns : List Str, PyData.depthAll (pds (sD ns)) = 0
  | [] => by simp [sD, pds, PyData.depthAll]
  | x :: r => by
    have := depth_sD r
    show PyData.depthAll (.str x :: pds (sD r)) = 0
    simp [PyData.depthAll, PyData.depth, this]
theorem depth_tD (ns : List Str) : (tD ns).pd.depth ≤ 2 := by
  show PyData.depth (.tuple (pds (sD ns))) ≤ 2
  simp [PyData.depth, depth_sD ns]
theorem ok_tD {ns : List Str} (h : ∀ s ∈ ns, NameOk s) : okD (tD ns) = true := okD_tup (ok_sD h)
theorem eq_tD {a b : List Str} (ha : ∀ s ∈ a, NameOk s) (hb : ∀ s ∈ b, NameOk s) : eqD (tD a) (tD b) = some (decide (a = b)) := by
  show eqF _ _ = _
  unfold eqF
  rw [if_pos ⟨ok_tD ha, ok_tD hb⟩]
  refine congrArg some ?_
  have := key_eqv (key_tD a) (key_tD b)
  by_cases e : a = b
  · rw [decide_eq_true e]
    exact this.mpr (by rw [e])
  · rw [decide_eq_false e]
    cases c : PyData.eqv (tD a).pd (tD b).pd with
    | false => rfl
    | true => exact absurd (tD_inj (this.mp c)) e
/-- no other row lies within -/
def least (rows : List (List Str)) (r : List Str) : Bool := !(rows.any fun o => !decide (o = r) && subB o r)
theorem alike_sD : ∀ a b : List Str, W.alikeAll (pds (sD a)) (pds (sD b)) = true
  | [], [] => by simp [sD, pds, W.alikeAll]
  | [], _ :: _ => by simp [sD, pds, W.alikeAll]
  | _ :: _, [] => by simp [sD, pds, W.alikeAll]
  | x :: r, y :: t => by
    have := alike_sD r t
    show W.alikeAll (.str x :: pds (sD r)) (.str y :: pds (sD t)) = true
    simp [W.alikeAll, W.alike, this]
theorem alike_tD (a b : List Str) : W.alike (tD a).pd (tD b).pd = true := by
  show W.alike (.tuple (pds (sD a))) (.tuple (pds (sD b))) = true
  simp [W.alike, alike_sD a b]
theorem mem_nD {rows : List (List Str)} {d : D} (m : d ∈ nD rows) : ∃ r ∈ rows, d = tD r := by
  obtain ⟨r, hr, rfl⟩ := List.mem_map.mp m
  exact ⟨r, hr, rfl⟩
theorem back_nD {ds : List D} {rows : List (List Str)} (h : ∀ d ∈ ds, d ∈ nD rows) : nD (ds.map namesOf) = ds := by
  induction ds with
  | nil => rfl
  | cons d r ih =>
    obtain ⟨ns, _, rfl⟩ := mem_nD (h d List.mem_cons_self)
    show tD (namesOf (tD ns)) :: nD (r.map namesOf) = _
    rw [names_tD, ih fun x m => h x (List.mem_cons_of_mem _ m)]
theorem names_nD (rows : List (List Str)) : (nD rows).map namesOf = rows := by
  induction rows with
  | nil => rfl
  | cons r t ih =>
    show namesOf (tD r) :: (nD t).map namesOf = _
    rw [names_tD, ih]
theorem alike_nD (rows : List (List Str)) : W.AllAlike ((nD rows).map D.pd) := fun x hx y hy => by
  obtain ⟨d, md, rfl⟩ := List.mem_map.mp hx
  obtain ⟨e, me, rfl⟩ := List.mem_map.mp hy
  obtain ⟨a, _, rfl⟩ := mem_nD md
  obtain ⟨b, _, rfl⟩ := mem_nD me
  exact alike_tD a b
theorem key_nD (rows : List (List Str)) : keysOk (nD rows) = true := by
  induction rows with
  | nil => rfl
  | cons r t ih =>
    show ((tD r).key && keysOk (nD t)) = true
    rw [key_tD, ih]
    rfl
theorem ok_nD {rows : List (List Str)} (h : ∀ r ∈ rows, RowOk r) : okD (.lst (nD rows)) = true := okD_lst fun d m => by
  obtain ⟨r, hr, rfl⟩ := mem_nD m
  exact ⟨ok_tD (h r hr).ok, Nat.le_trans (depth_tD r) (by decide)⟩
theorem sortable_nD {rows : List (List Str)} (h : ∀ r ∈ rows, RowOk r) : W.Sortable ((nD rows).map D.pd) := .inl fun d hd => by
  obtain ⟨e, me, rfl⟩ := List.mem_map.mp hd
  obtain ⟨r, hr, rfl⟩ := mem_nD me
  cases r with
  | nil => exact absurd (h [] hr).l1 (by decide)
  | cons x t => exact ⟨_, _, rfl⟩
theorem nest_sD : ∀ ns : List Str, nestings (sD ns) = 0
  | [] => rfl
  | _ :: r => by
    show max 0 (nestings (sD r)) = 0
    rw [nest_sD r]
    rfl
theorem nest_nD (rows : List (List Str)) : nestings (nD rows) ≤ 1 := by
  induction rows with
  | nil => exact Nat.zero_le _
  | cons r t ih =>
    show max (nestings (sD r) + 1) (nestings (nD t)) ≤ 1
    rw [nest_sD]
    omega
theorem setOk_nD {rows : List (List Str)} (h : ∀ r ∈ rows, RowOk r) (hl : rows.length < 60) : setOk (nD rows) = true := by
  unfold setOk
  have h1 : (nD rows).all D.isTup = true := List.all_eq_true.mpr fun d m => by
    obtain ⟨r, _, rfl⟩ := mem_nD m
    rfl
  have h2 := nest_nD rows
  have h3 : (nD rows).length = rows.length := List.length_map _
  rw [key_nD, ok_nD h, h1, decide_eq_true (show nestings (nD rows) ≤ 7 by omega), decide_eq_true (show (nD rows).length < 60 by omega)]
  simp
/-- rows put in order -/
noncomputable def sortR (rows : List (List Str)) : List (List Str) := ((nD rows).mergeSort (W.dataLe false D.pd)).map namesOf
theorem nD_sortR (rows : List (List Str)) : nD (sortR rows) = (nD rows).mergeSort (W.dataLe false D.pd) := back_nD fun _ m => (List.mergeSort_perm _ _).mem_iff.mp m
def uniq (rows : List (List Str)) : List (List Str) := (firsts [] (nD rows)).map namesOf
theorem nD_uniq (rows : List (List Str)) : nD (uniq rows) = firsts [] (nD rows) := back_nD fun d m => ((firsts_nil (key_nD rows)).2 d).mp m
theorem mem_uniq {rows : List (List Str)} {r : List Str} : r ∈ uniq rows ↔ r ∈ rows := by
  have h := (firsts_nil (key_nD rows)).2 (tD r)
  rw [← nD_uniq] at h
  constructor
  · intro m
    obtain ⟨s, hs, e⟩ := mem_nD (h.mp (List.mem_map.mpr ⟨r, m, rfl⟩))
    rw [tD_inj e]
    exact hs
  · intro m
    obtain ⟨s, hs, e⟩ := mem_nD (h.mpr (List.mem_map.mpr ⟨r, m, rfl⟩))
    rw [tD_inj e]
    exact hs
theorem nodup_uniq (rows : List (List Str)) : (uniq rows).Nodup := by
  have h := (firsts_nil (key_nD rows)).1
  rw [← nD_uniq] at h
  exact List.Pairwise.of_map tD (fun _ _ ne e => ne (congrArg tD e)) h
theorem len_firsts : ∀ (ds acc : List D), (firsts acc ds).length ≤ acc.length + ds.length
  | [], acc => by simp [firsts]
  | x :: r, acc => by
    unfold firsts
    split
    · have := len_firsts r acc
      rw [List.length_cons]
      omega
    · have := len_firsts r (acc ++ [x])
      rw [List.length_append, List.length_singleton] at this
      rw [List.length_cons]
      omega
theorem len_uniq (rows : List (List Str)) : (uniq rows).length ≤ rows.length := by
  have := len_firsts (nD rows) []
  unfold uniq
  rw [List.length_map]
  simpa [nD] using this
open Classical in
theorem sort_nD {rows : List (List Str)} (h : ∀ r ∈ rows, RowOk r) (hl : rows.length < 60) : sortD (nD rows) = some (nD (sortR rows)) := by
  unfold sortD
  have h3 : (nD rows).length = rows.length := List.length_map _
  rw [if_pos ⟨ok_nD h, alike_nD rows, sortable_nD h, by rw [h3]; unfold line; omega⟩, nD_sortR]
theorem sset_nD {rows : List (List Str)} (h : ∀ r ∈ rows, RowOk r) (hl : rows.length < 60) : bfD .sortedSet [.lst (nD rows)] = some (.tmp (.lst (nD (sortR (uniq rows))))) := by
  show (if setOk (nD rows) = true then (sortD (firsts [] (nD rows))).map tmpL else none) = _
  have := len_uniq rows
  rw [if_pos (setOk_nD h hl), ← nD_uniq, sort_nD (fun r m => h r (mem_uniq.mp m)) (by omega)]
  rfl
theorem sortR_perm (rows : List (List Str)) : (sortR rows).Perm rows := by
  have h := (List.mergeSort_perm (nD rows) (W.dataLe false D.pd)).map namesOf
  rw [names_nD] at h
  exact h
theorem sortR_same {a b : List (List Str)} (h : a.Perm b) : sortR a = sortR b := by
  unfold sortR
  rw [sort_perm (ds := nD a) (es := nD b) (h.map tD) (keysOk_mem (key_nD b)) (alike_nD b)]
theorem uniq_perm {a b : List (List Str)} (h : ∀ r, r ∈ a ↔ r ∈ b) : (uniq a).Perm (uniq b) :=
  (List.perm_ext_iff_of_nodup (nodup_uniq a) (nodup_uniq b)).mpr fun r => by rw [mem_uniq, mem_uniq, h]
theorem sortR_filter (rows : List (List Str)) (p : List Str → Bool) : sortR (rows.filter p) = (sortR rows).filter p := by
  have e : nD (rows.filter p) = (nD rows).filter (fun d => p (namesOf d)) := by
    unfold nD
    rw [List.filter_map]
    congr 1
    refine List.filter_congr fun r _ => ?_
    show p r = p (namesOf (tD r))
    rw [names_tD]
  unfold sortR
  rw [e, sort_filter _ (keysOk_mem (key_nD rows)) (alike_nD rows), List.filter_map]
  rfl
def lsD (ls : List Ln) : List D := ls.map lnD
def hit (ls : List Ln) (j : List Str) : List (List Str) := (ls.filter fun l => subB l.ms j).map (·.ns)
noncomputable def answer (ls : List Ln) (j : List Str) : List (List Str) := (sortR (uniq (hit ls j))).filter (least (sortR (uniq (hit ls j))))
theorem hit_ok {ls : List Ln} {j : List Str} (h : ∀ l ∈ ls, LnOk l) : ∀ r ∈ hit ls j, RowOk r := fun r m => by
  obtain ⟨l, hl, rfl⟩ := List.mem_map.mp m
  have := h l (List.mem_filter.mp hl).1
  exact ⟨this.n1, this.n2, this.n3.1, this.n3.2⟩
theorem hit_len (ls : List Ln) (j : List Str) : (hit ls j).length ≤ ls.length := by
  unfold hit
  rw [List.length_map]
  exact List.length_filter_le _ _
def hitF (j : List Str) : D → Option D
  | .tup [m, n] => if subB (namesOf m) j = true then some n else none
  | _ => none
theorem hitF_ln (j : List Str) (l : Ln) : hitF j (lnD l) = if subB l.ms j = true then some (tD l.ns) else none := by
  show (if subB (namesOf (tD l.ms)) j = true then some (tD l.ns) else none) = _
  rw [names_tD]
theorem hit_fm (ls : List Ln) (j : List Str) : (lsD ls).filterMap (hitF j) = nD (hit ls j) := by
  induction ls with
  | nil => rfl
  | cons l r ih =>
    unfold lsD hit at ih ⊢
    have e := hitF_ln j l
    by_cases c : subB l.ms j = true
    · rw [if_pos c] at e
      rw [List.map_cons, List.filterMap_cons_some e, List.filter_cons, if_pos c, ih]
      rfl
    · rw [if_neg c] at e
      rw [List.map_cons, List.filterMap_cons_none e, List.filter_cons, if_neg c, ih]
def keepF (p : List Str → Bool) : D → Option D := fun x => if p (namesOf x) = true then some x else none
theorem keepF_tD (p : List Str → Bool) (r : List Str) : keepF p (tD r) = if p r = true then some (tD r) else none := by
  unfold keepF
  rw [names_tD]
theorem filt_fm (rows : List (List Str)) (p : List Str → Bool) : (nD rows).filterMap (keepF p) = nD (rows.filter p) := by
  induction rows with
  | nil => rfl
  | cons r t ih =>
    unfold nD at ih ⊢
    have e := keepF_tD p r
    by_cases c : p r = true
    · rw [if_pos c] at e
      rw [List.map_cons, List.filterMap_cons_some e, List.filter_cons, if_pos c, ih]
      rfl
    · rw [if_neg c] at e
      rw [List.map_cons, List.filterMap_cons_none e, List.filter_cons, if_neg c, ih]
/-- what a row of bools over rows of names gives -/
theorem bools_nD (rows : List (List Str)) (p : List Str → Bool) : boolsOf ((nD rows).filterMap fun x => some (.bl (p (namesOf x)))) = some (rows.map p) := by
  have e : (nD rows).filterMap (fun x => some (D.bl (p (namesOf x)))) = rows.map fun r => .bl (p r) := by
    rw [fm_some]
    unfold nD
    rw [List.map_map]
    refine List.map_congr_left fun r _ => ?_
    show D.bl (p (namesOf (tD r))) = _
    rw [names_tD]
  rw [e, bools_map]
theorem any_nD (rows : List (List Str)) (f : D → Bool) : (nD rows).any f = rows.any fun r => f (tD r) := by
  unfold nD
  rw [List.any_map]
  rfl
def wD (K : List Ln) : D := .ins 0 [(0, .tup (lsD K))]
structure JOk (j : List Str) : Prop where
  up : j.Pairwise lt
  ok : ∀ s ∈ j, NameOk s
  len : j.length ≤ 8
def jD : Option (List Str) → D
  | none => .non
  | some j => tD j
theorem any_eq (rows : List (List Str)) (s : List Str) : (nD rows).any (fun y => PyData.eqv y.pd (tD s).pd) = rows.any fun r => decide (r = s) := by
  rw [any_nD]
  congr 1
  funext r
  have := key_eqv (key_tD r) (key_tD s)
  by_cases e : r = s
  · rw [decide_eq_true e]
    exact this.mpr (by rw [e])
  · rw [decide_eq_false e]
    cases c : PyData.eqv (tD r).pd (tD s).pd with
    | false => rfl
    | true => exact absurd (tD_inj (this.mp c)) e
theorem in_nD {rows : List (List Str)} {s : List Str} (hs : ∀ x ∈ s, NameOk x) (h : ∀ r ∈ rows, RowOk r) : inD (tD s) (nD rows) = some (rows.any fun r => decide (r = s)) := by
  unfold inD
  rw [if_pos ⟨ok_tD hs, ok_nD h⟩, any_eq]
theorem answer_ok {ls : List Ln} {j : List Str} (h : ∀ l ∈ ls, LnOk l) : ∀ r ∈ answer ls j, RowOk r := fun r m => hit_ok h r (mem_uniq.mp ((sortR_perm _).mem_iff.mp (List.mem_filter.mp m).1))
theorem uniq_snoc (rows : List (List Str)) (r : List Str) : uniq (rows ++ [r]) = if ((uniq rows).any fun o => decide (o = r)) = true then uniq rows else uniq rows ++ [r] := by
  have e : nD (rows ++ [r]) = nD rows ++ [tD r] := by unfold nD; rw [List.map_append]; rfl
  have e2 := firsts_snoc (tD r) (nD rows) []
  rw [← e, ← nD_uniq, ← nD_uniq, any_eq] at e2
  have back : ∀ {a b : List (List Str)}, nD a = nD b → a = b := fun {a b} h => by
    have := congrArg (List.map namesOf) h
    rwa [names_nD, names_nD] at this
  apply back
  rw [e2]
  split
  · rfl
  · unfold nD
    rw [List.map_append]
    rfl
theorem hit_snoc (ls : List Ln) (l : Ln) (j : List Str) : hit (ls ++ [l]) j = if subB l.ms j = true then hit ls j ++ [l.ns] else hit ls j := by
  unfold hit
  rw [List.filter_append, List.map_append]
  by_cases c : subB l.ms j = true
  · rw [if_pos c, List.filter_cons, if_pos c]
    rfl
  · rw [if_neg c, List.filter_cons, if_neg c]
    exact List.append_nil _
noncomputable def due (ls : List Ln) (j : List Str) : List (List Str) := sortR ((uniq (hit ls j)).filter (least (uniq (hit ls j))))
theorem split_ln {ls : List Ln} {done rest : List D} {x : D} (e : lsD ls = done ++ x :: rest) : ∃ l ∈ ls, x = lnD l ∧ ls.take (done.length + 1) = ls.take done.length ++ [l] := by
  have h : (lsD ls)[done.length]? = some x := by
    rw [e, List.getElem?_append_right (Nat.le_refl _), Nat.sub_self]
    rfl
  unfold lsD at h
  rw [List.getElem?_map] at h
  obtain ⟨l, h1, h2⟩ := Option.map_eq_some_iff.mp h
  refine ⟨l, List.mem_of_getElem? h1, h2.symm, ?_⟩
  rw [List.take_succ, h1]
  rfl
theorem take_all {ls : List Ln} : ls.take (lsD ls).length = ls := by
  unfold lsD
  rw [List.length_map, List.take_length]
theorem least_perm {a b : List (List Str)} (h : a.Perm b) : least a = least b := by
  funext r
  unfold least
  rw [h.any_eq]
/-- the program's answer is what is due -/
theorem due_answer {ls K : List Ln} (h : ∀ l, l ∈ ls ↔ l ∈ K) (j : List Str) : due ls j = answer K j := by
  unfold due answer
  have hm : ∀ r, r ∈ hit ls j ↔ r ∈ hit K j := fun r => by
    unfold hit
    simp only [List.mem_map, List.mem_filter, h]
  rw [sortR_filter, sortR_same (uniq_perm hm), least_perm ((uniq_perm hm).trans (sortR_perm (uniq (hit K j))).symm)]
def strOf : D → Str
  | .str s => s
  | _ => Str.empty
theorem back_sD {ds : List D} {xs : List Str} (h : ∀ d ∈ ds, d ∈ sD xs) : sD (ds.map strOf) = ds := by
  induction ds with
  | nil => rfl
  | cons d r ih =>
    obtain ⟨s, _, rfl⟩ := List.mem_map.mp (h d List.mem_cons_self)
    show D.str s :: sD (r.map strOf) = _
    rw [ih fun x m => h x (List.mem_cons_of_mem _ m)]
open Classical in
theorem sset_sD {xs : List Str} (h : ∀ s ∈ xs, NameOk s) (hl : xs.length < 4000) : ∃ ms, bfD .sortedSet [.lst (sD xs)] = some (.tmp (.lst (sD ms))) ∧ ms.Pairwise lt ∧ (∀ s, s ∈ ms ↔ s ∈ xs) ∧ ms.length ≤ xs.length := by
  have lenD : (sD xs).length = xs.length := List.length_map _
  obtain ⟨f1, f2⟩ := firsts_nil (key_sD xs)
  have f3 := len_firsts (sD xs) []
  have fin : ∀ d ∈ firsts [] (sD xs), d ∈ sD xs := fun d m => (f2 d).mp m
  have isS : ∀ d ∈ firsts [] (sD xs), ∃ s ∈ xs, d = .str s := fun d m => by
    obtain ⟨s, hs, rfl⟩ := List.mem_map.mp (fin d m)
    exact ⟨s, hs, rfl⟩
  have so : setOk (sD xs) = true := by
    unfold setOk
    have h1 : (sD xs).all D.isStr = true := List.all_eq_true.mpr fun d m => by
      obtain ⟨s, _, rfl⟩ := List.mem_map.mp m
      rfl
    rw [key_sD, ok_sD h, h1, decide_eq_true (show (sD xs).length < 4000 by omega)]
    rfl
  have al : W.AllAlike ((firsts [] (sD xs)).map D.pd) := fun x hx y hy => by
    obtain ⟨d, md, rfl⟩ := List.mem_map.mp hx
    obtain ⟨e, me, rfl⟩ := List.mem_map.mp hy
    obtain ⟨a, _, rfl⟩ := isS d md
    obtain ⟨b, _, rfl⟩ := isS e me
    simp [D.pd, W.alike]
  have sb : W.Sortable ((firsts [] (sD xs)).map D.pd) := .inr fun d hd => by
    obtain ⟨e, me, rfl⟩ := List.mem_map.mp hd
    obtain ⟨b, _, rfl⟩ := isS e me
    exact ⟨(fun q => by cases q), (fun q z => by cases z)⟩
  have ok : okD (.lst (firsts [] (sD xs))) = true := okD_lst fun d m => by
    obtain ⟨s, hs, rfl⟩ := isS d m
    exact ⟨name_ok (h s hs), by simp [D.pd, PyData.depth]⟩
  refine ⟨((firsts [] (sD xs)).mergeSort (W.dataLe false D.pd)).map strOf, ?_, ?_, ?_, ?_⟩
  · show (if setOk (sD xs) = true then (sortD (firsts [] (sD xs))).map tmpL else none) = _
    rw [if_pos so, back_sD (xs := xs) fun d m => fin d ((List.mergeSort_perm _ _).mem_iff.mp m)]
    unfold sortD
    rw [if_pos ⟨ok, al, sb, by unfold line; rw [List.length_nil] at f3; omega⟩]
    rfl
  · have p1 := W.sort_pairwise le_total' (firsts [] (sD xs))
    have p2 : ((firsts [] (sD xs)).mergeSort (W.dataLe false D.pd)).Nodup := (List.mergeSort_perm _ _).nodup_iff.mpr f1
    rw [List.pairwise_map]
    refine (List.pairwise_iff_forall_sublist.mpr fun {a b} hab => ?_)
    have le := List.pairwise_iff_forall_sublist.mp p1 hab
    have ne := List.pairwise_iff_forall_sublist.mp p2 hab
    have ma : a ∈ firsts [] (sD xs) := (List.mergeSort_perm _ _).mem_iff.mp (hab.subset List.mem_cons_self)
    have mb : b ∈ firsts [] (sD xs) := (List.mergeSort_perm _ _).mem_iff.mp (hab.subset (List.mem_cons_of_mem _ List.mem_cons_self))
    obtain ⟨x, _, rfl⟩ := isS a ma
    obtain ⟨y, _, rfl⟩ := isS b mb
    have l1 : (!W.dataLt (.str y) (.str x)) = true := le
    rw [W.dataLt_str, Bool.not_eq_true', decide_eq_false_iff_not] at l1
    show x.cps.toList < y.cps.toList
    have l2 := List.not_lt.mp l1
    rcases Classical.em (x.cps.toList = y.cps.toList) with q | q
    · refine absurd ?_ ne
      congr 1
      cases x
      cases y
      congr 1
      exact Array.toList_inj.mp q
    · rcases Classical.em (x.cps.toList < y.cps.toList) with z | z
      · exact z
      · exact absurd (List.le_antisymm l2 (List.not_lt.mp z)) q
  · intro s
    constructor
    · intro m
      obtain ⟨d, md, e⟩ := List.mem_map.mp m
      obtain ⟨t, ht, rfl⟩ := isS d ((List.mergeSort_perm _ _).mem_iff.mp md)
      rw [← e]
      exact ht
    · intro m
      exact List.mem_map.mpr ⟨.str s, (List.mergeSort_perm _ _).mem_iff.mpr ((f2 _).mpr (List.mem_map.mpr ⟨s, m, rfl⟩)), rfl⟩
  · rw [List.length_map, List.length_mergeSort]
    rw [List.length_nil] at f3
    omega
theorem w_sD : ∀ {ns : List Str}, (∀ s ∈ ns, NameOk s) → PyData.weightAll (pds (sD ns)) ≤ 9 * ns.length
  | [], _ => by simp [sD, pds, PyData.weightAll]
  | x :: r, h => by
    have h1 := w_sD fun s m => h s (List.mem_cons_of_mem _ m)
    have h2 : x.cps.size ≤ 8 := (h x List.mem_cons_self).2.1
    show PyData.weightAll (.str x :: pds (sD r)) ≤ _
    simp only [PyData.weightAll, PyData.weight, List.length_cons]
    omega
theorem w_nD : ∀ {rows : List (List Str)}, (∀ r ∈ rows, RowOk r) → PyData.weightAll (pds (nD rows)) ≤ 37 * rows.length
  | [], _ => by simp [nD, pds, PyData.weightAll]
  | x :: r, h => by
    have h1 := w_nD fun s m => h s (List.mem_cons_of_mem _ m)
    have h2 := w_sD (h x List.mem_cons_self).ok
    have h3 := (h x List.mem_cons_self).l4
    show PyData.weightAll (.tuple (pds (sD x)) :: pds (nD r)) ≤ _
    simp only [PyData.weightAll, PyData.weight, List.length_cons]
    omega
theorem sh_sD : ∀ ns : List Str, PyData.showableAll (pds (sD ns)) = true ∧ PyData.intsShortAll 8 (pds (sD ns)) = true
  | [] => by simp [sD, pds, PyData.showableAll, PyData.intsShortAll]
  | x :: r => by
    have h1 := sh_sD r
    show PyData.showableAll (.str x :: pds (sD r)) = true ∧ PyData.intsShortAll 8 (.str x :: pds (sD r)) = true
    simp [PyData.showableAll, PyData.showable, PyData.intsShortAll, PyData.intsShort, h1]
theorem sh_nD : ∀ rows : List (List Str), PyData.showableAll (pds (nD rows)) = true ∧ PyData.intsShortAll 8 (pds (nD rows)) = true
  | [] => by simp [nD, pds, PyData.showableAll, PyData.intsShortAll]
  | x :: r => by
    have h1 := sh_nD r
    have h2 := sh_sD x
    show PyData.showableAll (.tuple (pds (sD x)) :: pds (nD r)) = true ∧ PyData.intsShortAll 8 (.tuple (pds (sD x)) :: pds (nD r)) = true
    simp [PyData.showableAll, PyData.showable, PyData.intsShortAll, PyData.intsShort, h1, h2]
open Classical in
theorem repr_nD {rows : List (List Str)} (h : ∀ r ∈ rows, RowOk r) (hl : rows.length < 60) : ∃ z, bfD .repr [.lst (nD rows)] = some (.v (.d (.str z))) := by
  have ok := ok_nD h
  have hf := (okD_iff ok).1
  have hs := (okD_iff ok).2
  have hw := w_nD h
  have hd : PyData.depthAll (pds (nD rows)) ≤ 2 := by
    clear hw hs hf ok hl
    induction rows with
    | nil => simp [nD, pds, PyData.depthAll]
    | cons x r ih =>
      have h1 := ih fun s m => h s (List.mem_cons_of_mem _ m)
      have h2 := depth_tD x
      show PyData.depthAll ((tD x).pd :: pds (nD r)) ≤ 2
      simp only [PyData.depthAll]
      omega
  have depth : PyData.depth (.list (pds (nD rows))) ≤ 3 := by
    simp only [PyData.depth]
    omega
  have lay : PyData.layable0 (.list (pds (nD rows))) = true := by
    unfold PyData.layable0
    have c := SeqAt.canLay_of_shaped hs
    rw [show PyData.canLay0 (.list (pds (nD rows))) = true from c]
    have w : PyData.weight (.list (pds (nD rows))) ≤ 2 ^ 20 := by
      simp only [PyData.weight]
      omega
    rw [decide_eq_true (show PyData.depth (.list (pds (nD rows))) ≤ 64 by omega), decide_eq_true w]
    rfl
  have sh : showOk (D.lst (nD rows)).pd := ⟨by show PyData.showable (.list (pds (nD rows))) = true; simp [PyData.showable, sh_nD rows], by
    rw [line_eq]
    exact PyData.shown_fits_of_layable0 (B := 8) (by decide) (by decide) lay (by show PyData.intsShort 8 (.list (pds (nD rows))) = true; simp [PyData.intsShort, sh_nD rows])⟩
  refine ⟨(D.lst (nD rows)).pd.shown, ?_⟩
  show (reprD (.lst (nD rows))).map sv = _
  unfold reprD
  rw [if_pos ⟨hf, by show PyData.depth (.list (pds (nD rows))) ≤ 60; omega, sh⟩]
  rfl
instance (s : Str) : Decidable (NameOk s) := by
  unfold NameOk
  infer_instance
theorem mark_ok : ∀ s ∈ (["cold", "rain", "water", "snow", "sun"] : List Str), NameOk s := by decide
theorem few_ok : ∀ s ∈ (["cape", "coat", "tent", "pan", "rope"] : List Str), NameOk s := by decide
theorem many_ok : ∀ s ∈ (["cape", "coat", "tent", "pan", "rope", "cup", "sock", "map", "lamp", "knife"] : List Str), NameOk s := by decide
theorem back_all {acc : List D} (h : ∀ d ∈ acc, ∃ s, d = .str s ∧ NameOk s) : ∃ xs, acc = sD xs ∧ ∀ s ∈ xs, NameOk s := by
  induction acc with
  | nil => exact ⟨[], rfl, fun s m => by cases m⟩
  | cons d r ih =>
    obtain ⟨xs, rfl, hx⟩ := ih fun x m => h x (List.mem_cons_of_mem _ m)
    obtain ⟨s, rfl, hs⟩ := h d List.mem_cons_self
    refine ⟨s :: xs, rfl, fun t m => ?_⟩
    rcases List.mem_cons.mp m with rfl | m
    · exact hs
    · exact hx t m
theorem same_St {S : St} (h : S.esc = []) : S = ⟨S.cells ++ [], []⟩ := by
  rw [List.append_nil]
  cases S
  dsimp only at h
  rw [h]
theorem name_join {xs : List Str} (h : ∀ s ∈ xs, s.length = 1 ∧ ∀ c ∈ s.cps.toList, 97 ≤ c ∧ c ≤ 122) (h1 : 1 ≤ xs.length) (h8 : xs.length ≤ 8) : NameOk (Txt.join "" xs) := by
  have hl := PySem.W.KT.join_ones xs fun a m => (h a m).1
  refine ⟨by rw [hl]; exact h1, by rw [hl]; exact h8, fun c hc => ?_⟩
  have e : Txt.join "" xs = Str.join "" xs := by
    show Builtin.Str.glued "" xs = _
    exact StrLaws.glued_eq_join _ _
  rw [e] at hc
  obtain ⟨a, m, q⟩ := mem_joinS xs c hc
  exact (h a m).2 c q
theorem back_ones {acc : List D} (h : ∀ d ∈ acc, ∃ s : Str, d = .str s ∧ s.length = 1 ∧ ∀ c ∈ s.cps.toList, 97 ≤ c ∧ c ≤ 122) : ∃ xs : List Str, acc = sD xs ∧ ∀ s ∈ xs, s.length = 1 ∧ ∀ c ∈ s.cps.toList, 97 ≤ c ∧ c ≤ 122 := by
  induction acc with
  | nil => exact ⟨[], rfl, fun s m => by cases m⟩
  | cons d r ih =>
    obtain ⟨xs, rfl, hx⟩ := ih fun x m => h x (List.mem_cons_of_mem _ m)
    obtain ⟨s, rfl, hs⟩ := h d List.mem_cons_self
    refine ⟨s :: xs, rfl, fun t m => ?_⟩
    rcases List.mem_cons.mp m with rfl | m
    · exact hs
    · exact hx t m
theorem abyz_ok : ∀ i : Fin 4, ∃ c : Nat, ("abyz" : Str).cps.toList[i.val]? = some c ∧ 97 ≤ c ∧ c ≤ 122 := by
  intro i
  match i with
  | ⟨0, _⟩ => exact ⟨97, rfl, by decide, by decide⟩
  | ⟨1, _⟩ => exact ⟨98, rfl, by decide, by decide⟩
  | ⟨2, _⟩ => exact ⟨121, rfl, by decide, by decide⟩
  | ⟨3, _⟩ => exact ⟨122, rfl, by decide, by decide⟩
theorem sign_ok {r : Int} (h0 : 0 ≤ r) (h1 : r < 4) : ∃ c : Nat, Pk.getD (.str "abyz") (.int r) = some (.str ⟨#[c]⟩) ∧ 97 ≤ c ∧ c ≤ 122 := by
  obtain ⟨c, e, b⟩ := abyz_ok ⟨r.toNat, by omega⟩
  refine ⟨c, ?_, b⟩
  show (if ("abyz" : Str).length ≤ Pk.line then (atD ("abyz" : Str).cps.toList r).map fun c => D.str ⟨#[c]⟩ else none) = _
  rw [if_pos (by decide)]
  unfold atD
  rw [if_pos h0, e]
  rfl
theorem ok_lnD {l : Ln} (h : LnOk l) : okD (lnD l) = true ∧ (lnD l).pd.depth ≤ 50 := by
  refine ⟨okD_tup (okD_lst fun d m => ?_), ?_⟩
  · simp only [List.mem_cons, List.not_mem_nil, or_false] at m
    rcases m with rfl | rfl
    · exact ⟨ok_tD h.m2, Nat.le_trans (depth_tD _) (by decide)⟩
    · exact ⟨ok_tD h.n2, Nat.le_trans (depth_tD _) (by decide)⟩
  · have h1 := depth_tD l.ms
    have h2 := depth_tD l.ns
    show PyData.depth (.tuple ((tD l.ms).pd :: (tD l.ns).pd :: [])) ≤ 50
    simp only [PyData.depth, PyData.depthAll]
    omega
theorem ok_lsD {ls : List Ln} (h : ∀ l ∈ ls, LnOk l) : okD (.lst (lsD ls)) = true := okD_lst fun d m => by
  obtain ⟨l, ml, rfl⟩ := List.mem_map.mp m
  exact ok_lnD (h l ml)
theorem eq_nil {ls : List Ln} (h : ∀ l ∈ ls, LnOk l) : eqD (.lst (lsD ls)) (.lst []) = some (decide (ls = [])) := by
  show eqF _ _ = _
  unfold eqF
  rw [if_pos ⟨ok_lsD h, ok_lsD (ls := []) fun l m => by cases m⟩]
  refine congrArg some ?_
  cases ls with
  | nil => simp [lsD, D.pd, pds, PyData.eqv, PyData.eqvAll]
  | cons l r => simp [lsD, D.pd, pds, PyData.eqv, PyData.eqvAll]
theorem back_lns {acc : List D} (h : ∀ d ∈ acc, ∃ l, d = lnD l ∧ LnOk l) : ∃ ls, acc = lsD ls ∧ ∀ l ∈ ls, LnOk l := by
  induction acc with
  | nil => exact ⟨[], rfl, fun s m => by cases m⟩
  | cons d r ih =>
    obtain ⟨xs, rfl, hx⟩ := ih fun x m => h x (List.mem_cons_of_mem _ m)
    obtain ⟨s, rfl, hs⟩ := h d List.mem_cons_self
    refine ⟨s :: xs, rfl, fun t m => ?_⟩
    rcases List.mem_cons.mp m with rfl | m
    · exact hs
    · exact hx t m
theorem lnD_inj : ∀ {a b : Ln}, lnD a = lnD b → a = b
  | ⟨m1, n1⟩, ⟨m2, n2⟩, h => by
    injection h with h
    injection h with h1 h2
    injection h2 with h2 _
    have q1 : m1 = m2 := tD_inj h1
    have q2 : n1 = n2 := tD_inj h2
    rw [q1, q2]
theorem back_in {ds : List D} {ls : List Ln} (h : ∀ d ∈ ds, d ∈ lsD ls) : ∃ K, ds = lsD K ∧ ∀ l ∈ K, l ∈ ls := by
  induction ds with
  | nil => exact ⟨[], rfl, fun l m => by cases m⟩
  | cons d r ih =>
    obtain ⟨K, rfl, hK⟩ := ih fun x m => h x (List.mem_cons_of_mem _ m)
    obtain ⟨l, hl, rfl⟩ := List.mem_map.mp (h d List.mem_cons_self)
    refine ⟨l :: K, rfl, fun x m => ?_⟩
    rcases List.mem_cons.mp m with rfl | m
    · exact hl
    · exact hK x m
theorem key_lsD : ∀ ls : List Ln, keysOk (lsD ls) = true
  | [] => rfl
  | l :: r => by
    show ((keysOk (sD l.ms) && (keysOk (sD l.ns) && true)) && keysOk (lsD r)) = true
    rw [key_sD, key_sD, key_lsD r]
    rfl
theorem nest_lsD : ∀ ls : List Ln, nestings (lsD ls) ≤ 2
  | [] => Nat.zero_le _
  | l :: r => by
    have := nest_lsD r
    show max (max (nestings (sD l.ms) + 1) (max (nestings (sD l.ns) + 1) 0) + 1) (nestings (lsD r)) ≤ 2
    rw [nest_sD, nest_sD]
    omega
theorem alike_lnD (a b : Ln) : W.alike (lnD a).pd (lnD b).pd = true := by
  show W.alike (.tuple [(tD a.ms).pd, (tD a.ns).pd]) (.tuple [(tD b.ms).pd, (tD b.ns).pd]) = true
  simp only [W.alike, W.alikeAll, alike_tD, Bool.and_self]
open Classical in
theorem sset_lsD {ls : List Ln} (h : ∀ l ∈ ls, LnOk l) (hl : ls.length < 60) : ∃ K, bfD .sortedSet [.lst (lsD ls)] = some (.tmp (.lst (lsD K))) ∧ (∀ l, l ∈ ls ↔ l ∈ K) ∧ K.length = (firsts [] (lsD ls)).length ∧ K.length ≤ ls.length ∧ bfD .lenSet [.lst (lsD ls)] = some (.v (.d (.int K.length))) := by
  have lenD : (lsD ls).length = ls.length := List.length_map _
  obtain ⟨f1, f2⟩ := firsts_nil (key_lsD ls)
  have f3 := len_firsts (lsD ls) []
  have fin : ∀ d ∈ firsts [] (lsD ls), d ∈ lsD ls := fun d m => (f2 d).mp m
  have isS : ∀ d ∈ firsts [] (lsD ls), ∃ l ∈ ls, d = lnD l := fun d m => by
    obtain ⟨s, hs, rfl⟩ := List.mem_map.mp (fin d m)
    exact ⟨s, hs, rfl⟩
  have so : setOk (lsD ls) = true := by
    unfold setOk
    have h1 : (lsD ls).all D.isTup = true := List.all_eq_true.mpr fun d m => by
      obtain ⟨s, _, rfl⟩ := List.mem_map.mp m
      rfl
    have h2 := nest_lsD ls
    rw [key_lsD, ok_lsD h, h1, decide_eq_true (show nestings (lsD ls) ≤ 7 by omega), decide_eq_true (show (lsD ls).length < 60 by omega)]
    simp
  have al : W.AllAlike ((firsts [] (lsD ls)).map D.pd) := fun x hx y hy => by
    obtain ⟨d, md, rfl⟩ := List.mem_map.mp hx
    obtain ⟨e, me, rfl⟩ := List.mem_map.mp hy
    obtain ⟨a, _, rfl⟩ := isS d md
    obtain ⟨b, _, rfl⟩ := isS e me
    exact alike_lnD a b
  have sb : W.Sortable ((firsts [] (lsD ls)).map D.pd) := .inl fun d hd => by
    obtain ⟨e, me, rfl⟩ := List.mem_map.mp hd
    obtain ⟨b, _, rfl⟩ := isS e me
    exact ⟨_, _, rfl⟩
  have ok : okD (.lst (firsts [] (lsD ls))) = true := okD_lst fun d m => by
    obtain ⟨s, hs, rfl⟩ := isS d m
    exact ok_lnD (h s hs)
  obtain ⟨K, eK, hK⟩ := back_in (ds := (firsts [] (lsD ls)).mergeSort (W.dataLe false D.pd)) (ls := ls) fun d m => fin d ((List.mergeSort_perm _ _).mem_iff.mp m)
  have lenK : K.length = (firsts [] (lsD ls)).length := by
    have := congrArg List.length eK
    rw [List.length_mergeSort] at this
    rw [this]
    exact (List.length_map _).symm
  rw [List.length_nil] at f3
  refine ⟨K, ?_, fun l => ⟨fun m => ?_, hK l⟩, lenK, by omega, ?_⟩
  · show (if setOk (lsD ls) = true then (sortD (firsts [] (lsD ls))).map tmpL else none) = _
    rw [if_pos so]
    unfold sortD
    rw [if_pos ⟨ok, al, sb, by unfold line; omega⟩, eK]
    rfl
  · have m2 : lnD l ∈ lsD K := by
      rw [← eK]
      exact (List.mergeSort_perm _ _).mem_iff.mpr ((f2 _).mpr (List.mem_map.mpr ⟨l, m, rfl⟩))
    obtain ⟨l', m', e⟩ := List.mem_map.mp m2
    rw [← lnD_inj e]
    exact m'
  · show (if setOk (lsD ls) = true then some (iv (firsts [] (lsD ls)).length) else none) = _
    rw [if_pos so, lenK]
    rfl
theorem eq_nD {a : List (List Str)} (h : ∀ r ∈ a, RowOk r) : eqD (.lst (nD a)) (.lst (nD a)) = some true := by
  show eqF _ _ = _
  unfold eqF
  rw [if_pos ⟨ok_nD h, ok_nD h⟩]
  refine congrArg some ?_
  exact (keys_eqv (key_nD a) (key_nD a)).mpr rfl
theorem wp_if {α : Type} {c : Prop} [Decidable c] {x : α} {S : St} {P : α → St → Prop} (h : c) : Wp (lift (if c then some x else none) S) P = P x S := by
  rw [if_pos h]
  exact wp_some
theorem eq_bl (b : Bool) : eqD (.bl b) (.bl b) = some true := by
  show eqF _ _ = _
  unfold eqF
  rw [if_pos ⟨rfl, rfl⟩]
  cases b <;> rfl
theorem bk_len {n : Int} (h : 0 ≤ n ∧ n < 9223372036854775808) : backD .len (.int n) = some (.v (.d (.int n))) := if_pos h
theorem bk_small {n : Nat} (h : n < 60) : backD .len (.int (n : Int)) = some (.v (.d (.int (n : Int)))) := bk_len ⟨by omega, by omega⟩
theorem none_ok : JOk [] := ⟨List.Pairwise.nil, (fun s m => by cases m), by decide⟩
theorem cut_8 {α : Type} (xs : List α) : cut xs none (some 8) = xs.take 8 := by
  unfold cut endOf
  show List.take (min 8 xs.length - 0) (List.drop 0 xs) = _
  rw [List.drop_zero, Nat.sub_zero]
  rcases Nat.le_total 8 xs.length with h | h
  · rw [Nat.min_eq_left h]
  · rw [Nat.min_eq_right h, List.take_length, List.take_of_length_le h]
theorem far_ok : JOk ["aa", "bb", "cc", "dd", "ee", "ff", "gg", "hh"] := ⟨by unfold lt; decide, by decide, by decide⟩
theorem jok_of {ms : List Str} (h1 : ms.Pairwise lt) (h2 : ∀ s ∈ ms, NameOk s) (h3 : ms.length ≤ 3) : JOk ms := ⟨h1, h2, by omega⟩
theorem jok_take {ms : List Str} (h1 : ms.Pairwise lt) (h2 : ∀ s ∈ ms, NameOk s) : JOk (ms.take 8) := ⟨h1.sublist (List.take_sublist 8 ms), fun s m => h2 s (List.mem_of_mem_take m), by rw [List.length_take]; omega⟩
end Pk
end
section
set_option Elab.async false
set_option linter.all false
set_option maxRecDepth 100000
set_option maxHeartbeats 2000000
/-! Lines written, lists of lines compared and shown: plain. -/
namespace Pk
open PySem
theorem join_le (s : Str) : ∀ xs : List Str, (Str.join s xs).length ≤ joinLen s xs
  | [] => Nat.zero_le _
  | [x] => by
    show x.length ≤ (x.length + s.length) + 0
    omega
  | x :: y :: r => by
    have ih := join_le s (y :: r)
    show (x ++ s ++ Str.join s (y :: r)).length ≤ (x.length + s.length) + joinLen s (y :: r)
    rw [strLen_append, strLen_append]
    omega
theorem txt_join (s : Str) (xs : List Str) : Txt.join s xs = Str.join s xs := StrLaws.glued_eq_join _ _
theorem joinLen_le {s : Str} {B : Nat} : ∀ {xs : List Str}, (∀ x ∈ xs, x.length ≤ B) → joinLen s xs ≤ xs.length * (B + s.length)
  | [], _ => Nat.zero_le _
  | x :: r, h => by
    have h1 := h x List.mem_cons_self
    have h2 := joinLen_le (s := s) fun z m => h z (List.mem_cons_of_mem _ m)
    show (x.length + s.length) + joinLen s r ≤ (r.length + 1) * _
    rw [Nat.succ_mul]
    omega
theorem bm_joinT {S : St} {s : Str} {ds : List D} {xs : List Str} (h : strsOf ds = some xs) (hl : joinLen s xs ≤ line) : callBm .join (.v (.d (.str s))) [.v (.d (.tup ds))] S = .ok (.v (.d (.str (Txt.join s xs)))) S := by
  show lift (joinO (.str s) [.tup ds]) S = _
  unfold joinO
  simp only [h]
  rw [if_pos hl]
  rfl
theorem bm_joinC {S : St} {s : Str} {i : Nat} {ds : List D} {xs : List Str} (hi : S.cells[i]? = some (.lst ds)) (h : strsOf ds = some xs) (hl : joinLen s xs ≤ line) : callBm .join (.v (.d (.str s))) [.v (.r i)] S = .ok (.v (.d (.str (Txt.join s xs)))) S := by
  show lift (readBm .join (some (.str s)) (looks S [.v (.r i)])) S = _
  rw [looks1 (lk_R hi)]
  show lift (joinO (.str s) [.lst ds]) S = _
  unfold joinO
  simp only [h]
  rw [if_pos hl]
  rfl
/-- a line as it is written -/
def wrote (l : Ln) : Str := Txt.join "," l.ms ++ ": " ++ Txt.join "|" l.ns
theorem ms_len {l : Ln} (h : LnOk l) : joinLen "," l.ms ≤ 27 := by
  have h1 := joinLen_le (s := ",") (B := 8) fun x m => (h.m2 x m).2.1
  have h2 := h.m3
  have : (("," : String) : Str).length = 1 := rfl
  rw [this] at h1
  omega
theorem ns_len {l : Ln} (h : LnOk l) : joinLen "|" l.ns ≤ 36 := by
  have h1 := joinLen_le (s := "|") (B := 8) fun x m => (h.n2 x m).2.1
  have h2 := h.n3.2
  have : (("|" : String) : Str).length = 1 := rfl
  rw [this] at h1
  omega
theorem ms_len2 {l : Ln} (h : LnOk l) : (Txt.join "," l.ms).length ≤ 27 := by
  rw [txt_join]
  exact Nat.le_trans (join_le _ _) (ms_len h)
theorem ns_len2 {l : Ln} (h : LnOk l) : (Txt.join "|" l.ns).length ≤ 36 := by
  rw [txt_join]
  exact Nat.le_trans (join_le _ _) (ns_len h)
theorem wrote_len {l : Ln} (h : LnOk l) : (wrote l).length ≤ 65 := by
  have h1 := ms_len2 h
  have h2 := ns_len2 h
  unfold wrote
  rw [strLen_append, strLen_append, show ((": " : String) : Str).length = 2 from rfl]
  omega
/-- a line of data, written -/
def lnOf : D → Ln
  | .tup [m, n] => ⟨namesOf m, namesOf n⟩
  | _ => ⟨[], []⟩
theorem lnOf_ln (l : Ln) : lnOf (lnD l) = l := by
  show (⟨namesOf (tD l.ms), namesOf (tD l.ns)⟩ : Ln) = l
  rw [names_tD, names_tD]
theorem wrote_fm (K : List Ln) : (lsD K).filterMap (fun d => some (.str (wrote (lnOf d)))) = sD (K.map wrote) := by
  induction K with
  | nil => rfl
  | cons l r ih =>
    show D.str (wrote (lnOf (lnD l))) :: (lsD r).filterMap (fun d => some (.str (wrote (lnOf d)))) = _
    rw [lnOf_ln, ih]
    rfl
def wroteAll (K : List Ln) : Str := Txt.join "\n" (K.map wrote)
theorem all_len {K : List Ln} (h : ∀ l ∈ K, LnOk l) (hl : K.length < 60) : joinLen "\n" (K.map wrote) ≤ line := by
  have h1 := joinLen_le (s := "\n") (B := 65) (xs := K.map wrote) fun x m => by
    obtain ⟨l, ml, rfl⟩ := List.mem_map.mp m
    exact wrote_len (h l ml)
  have : (("\n" : String) : Str).length = 1 := rfl
  rw [this, List.length_map] at h1
  unfold line
  omega
theorem all_len2 {K : List Ln} (h : ∀ l ∈ K, LnOk l) (hl : K.length < 60) : (wroteAll K).length ≤ line := by
  unfold wroteAll
  rw [txt_join]
  exact Nat.le_trans (join_le _ _) (all_len h hl)
/-! ### == over lines -/
instance : DecidableEq Ln := fun a b => decidable_of_iff (a.ms = b.ms ∧ a.ns = b.ns) ⟨fun h => by
  cases a
  cases b
  obtain ⟨h1, h2⟩ := h
  dsimp only at h1 h2
  rw [h1, h2], fun h => by rw [h]; exact ⟨rfl, rfl⟩⟩
theorem key_lnD (l : Ln) : (lnD l).key = true := by
  show (keysOk (sD l.ms) && (keysOk (sD l.ns) && true)) = true
  rw [key_sD, key_sD]
  rfl
theorem lsD_inj {a b : List Ln} (h : lsD a = lsD b) : a = b := by
  have := congrArg (List.map lnOf) h
  have e : ∀ K : List Ln, (lsD K).map lnOf = K := fun K => by
    unfold lsD
    rw [List.map_map, show (lnOf ∘ lnD) = id from funext lnOf_ln, List.map_id]
  rwa [e, e] at this
theorem eq_lsT {a b : List Ln} (ha : ∀ l ∈ a, LnOk l) (hb : ∀ l ∈ b, LnOk l) : eqD (.tup (lsD a)) (.tup (lsD b)) = some (decide (a = b)) := by
  show eqF _ _ = _
  unfold eqF
  rw [if_pos ⟨okD_tup (ok_lsD ha), okD_tup (ok_lsD hb)⟩]
  refine congrArg some ?_
  have := key_eqv (x := .tup (lsD a)) (y := .tup (lsD b)) (key_lsD a) (key_lsD b)
  by_cases e : a = b
  · rw [decide_eq_true e]
    exact this.mpr (by rw [e])
  · rw [decide_eq_false e]
    cases c : PyData.eqv (D.tup (lsD a)).pd (D.tup (lsD b)).pd with
    | false => rfl
    | true =>
      have z := this.mp c
      injection z with z
      exact absurd (lsD_inj z) e
theorem eq_lsL {a b : List Ln} (ha : ∀ l ∈ a, LnOk l) (hb : ∀ l ∈ b, LnOk l) : eqD (.lst (lsD a)) (.lst (lsD b)) = some (decide (a = b)) := by
  show eqF _ _ = _
  unfold eqF
  rw [if_pos ⟨ok_lsD ha, ok_lsD hb⟩]
  refine congrArg some ?_
  have := keys_eqv (key_lsD a) (key_lsD b)
  by_cases e : a = b
  · rw [decide_eq_true e]
    exact this.mpr (by rw [e])
  · rw [decide_eq_false e]
    cases c : PyData.eqv (D.lst (lsD a)).pd (D.lst (lsD b)).pd with
    | false => rfl
    | true => exact absurd (lsD_inj (this.mp c)) e
theorem in_lsD {ls : List Ln} {l : Ln} (hl : LnOk l) (h : ∀ l ∈ ls, LnOk l) : inD (lnD l) (lsD ls) = some (ls.any fun r => decide (r = l)) := by
  unfold inD
  rw [if_pos ⟨(ok_lnD hl).1, ok_lsD h⟩]
  refine congrArg some ?_
  unfold lsD
  rw [List.any_map]
  congr 1
  funext r
  have := key_eqv (key_lnD r) (key_lnD l)
  show PyData.eqv (lnD r).pd (lnD l).pd = _
  by_cases e : r = l
  · rw [decide_eq_true e]
    exact this.mpr (by rw [e])
  · rw [decide_eq_false e]
    cases c : PyData.eqv (lnD r).pd (lnD l).pd with
    | false => rfl
    | true => exact absurd (lnD_inj (this.mp c)) e
/-! ### shown -/
theorem w_lsD : ∀ {ls : List Ln}, (∀ l ∈ ls, LnOk l) → PyData.weightAll (pds (lsD ls)) ≤ 70 * ls.length
  | [], _ => by simp [lsD, pds, PyData.weightAll]
  | l :: r, h => by
    have h1 := w_lsD fun s m => h s (List.mem_cons_of_mem _ m)
    have hl := h l List.mem_cons_self
    have h2 := w_sD hl.m2
    have h3 := w_sD hl.n2
    have h4 := hl.m3
    have h5 := hl.n3.2
    show PyData.weightAll (.tuple [.tuple (pds (sD l.ms)), .tuple (pds (sD l.ns))] :: pds (lsD r)) ≤ _
    simp only [PyData.weightAll, PyData.weight, List.length_cons]
    omega
theorem sh_sD13 : ∀ ns : List Str, PyData.intsShortAll 13 (pds (sD ns)) = true
  | [] => by simp [sD, pds, PyData.intsShortAll]
  | x :: r => by
    have h1 := sh_sD13 r
    show PyData.intsShortAll 13 (.str x :: pds (sD r)) = true
    simp [PyData.intsShortAll, PyData.intsShort, h1]
theorem sh_lsD : ∀ ls : List Ln, PyData.showableAll (pds (lsD ls)) = true ∧ PyData.intsShortAll 13 (pds (lsD ls)) = true
  | [] => by simp [lsD, pds, PyData.showableAll, PyData.intsShortAll]
  | l :: r => by
    have h1 := sh_lsD r
    have h2 := sh_sD l.ms
    have h3 := sh_sD l.ns
    have h4 := sh_sD13 l.ms
    have h5 := sh_sD13 l.ns
    show PyData.showableAll (.tuple [.tuple (pds (sD l.ms)), .tuple (pds (sD l.ns))] :: pds (lsD r)) = true ∧ PyData.intsShortAll 13 (.tuple [.tuple (pds (sD l.ms)), .tuple (pds (sD l.ns))] :: pds (lsD r)) = true
    simp [PyData.showableAll, PyData.showable, PyData.intsShortAll, PyData.intsShort, h1, h2, h3, h4, h5]
theorem depth_lsD (ls : List Ln) : PyData.depthAll (pds (lsD ls)) ≤ 5 := by
  induction ls with
  | nil => simp [lsD, pds, PyData.depthAll]
  | cons l r ih =>
    have h2 := depth_sD l.ms
    have h3 := depth_sD l.ns
    show PyData.depthAll (.tuple [.tuple (pds (sD l.ms)), .tuple (pds (sD l.ns))] :: pds (lsD r)) ≤ 5
    simp only [PyData.depthAll, PyData.depth]
    omega
def shownT (K : List Ln) : Str := (D.tup (lsD K)).pd.shown
def shownL (K : List Ln) : Str := (D.lst (lsD K)).pd.shown
theorem repr_lsT {K : List Ln} (h : ∀ l ∈ K, LnOk l) (hl : K.length < 60) : reprD (.tup (lsD K)) = some (shownT K) ∧ (shownT K).length ≤ 15728653 := by
  have ok := ok_lsD h
  have hf := (okD_iff ok).1
  have hs := (okD_iff ok).2
  have hw := w_lsD h
  have hd := depth_lsD K
  have depth : PyData.depth (.tuple (pds (lsD K))) ≤ 6 := by
    simp only [PyData.depth]
    omega
  have lay : PyData.layable0 (.tuple (pds (lsD K))) = true := by
    unfold PyData.layable0
    have c : PyData.canLay0 (.list (pds (lsD K))) = true := SeqAt.canLay_of_shaped hs
    rw [show PyData.canLay0 (.tuple (pds (lsD K))) = true by simpa [PyData.canLay0] using c]
    have w : PyData.weight (.tuple (pds (lsD K))) ≤ 2 ^ 20 := by
      simp only [PyData.weight]
      omega
    rw [decide_eq_true (show PyData.depth (.tuple (pds (lsD K))) ≤ 64 by omega), decide_eq_true w]
    rfl
  have le : (shownT K).length ≤ 15728653 := PyData.shown_le_of_layable0 lay (by show PyData.intsShort 13 (.tuple (pds (lsD K))) = true; simp [PyData.intsShort, sh_lsD K])
  refine ⟨?_, le⟩
  unfold reprD
  rw [if_pos ⟨hf, by show PyData.depth (.tuple (pds (lsD K))) ≤ 60; omega, by show PyData.showable (.tuple (pds (lsD K))) = true; simp [PyData.showable, sh_lsD K], Nat.le_trans le (by unfold line; decide)⟩]
  rfl
theorem repr_lsL {K : List Ln} (h : ∀ l ∈ K, LnOk l) (hl : K.length < 60) : reprD (.lst (lsD K)) = some (shownL K) ∧ (shownL K).length ≤ 15728653 := by
  have ok := ok_lsD h
  have hf := (okD_iff ok).1
  have hs := (okD_iff ok).2
  have hw := w_lsD h
  have hd := depth_lsD K
  have depth : PyData.depth (.list (pds (lsD K))) ≤ 6 := by
    simp only [PyData.depth]
    omega
  have lay : PyData.layable0 (.list (pds (lsD K))) = true := by
    unfold PyData.layable0
    have c := SeqAt.canLay_of_shaped hs
    rw [show PyData.canLay0 (.list (pds (lsD K))) = true from c]
    have w : PyData.weight (.list (pds (lsD K))) ≤ 2 ^ 20 := by
      simp only [PyData.weight]
      omega
    rw [decide_eq_true (show PyData.depth (.list (pds (lsD K))) ≤ 64 by omega), decide_eq_true w]
    rfl
  have le : (shownL K).length ≤ 15728653 := PyData.shown_le_of_layable0 lay (by show PyData.intsShort 13 (.list (pds (lsD K))) = true; simp [PyData.intsShort, sh_lsD K])
  refine ⟨?_, le⟩
  unfold reprD
  rw [if_pos ⟨hf, by show PyData.depth (.list (pds (lsD K))) ≤ 60; omega, by show PyData.showable (.list (pds (lsD K))) = true; simp [PyData.showable, sh_lsD K], Nat.le_trans le (by unfold line; decide)⟩]
  rfl
/-! ### a loop over a list that its body leaves alone -/
theorem for_cellG {α : Type} {step : D → Env → M (Option α × Env)} {J : Nat → Env → St → Prop} {P : Option α × Env → St → Prop} {i : Nat} {ds : List D} (hi : ∀ k ρ S, J k ρ S → S.cells[i]? = some (.lst ds)) (hs : ∀ k (h : k < ds.length) ρ S, J k ρ S → Wp (step ds[k] ρ S) fun p S' => p.1 = none ∧ J (k + 1) p.2 S')
    (q : ∀ ρ S, J ds.length ρ S → P (none, ρ) S) : ∀ (m k : Nat), k ≤ ds.length → ds.length - k < m → ∀ ρ S, J k ρ S → Wp (forCell step i m k ρ S) P := by
  intro m
  induction m with
  | zero => intro k _ h; omega
  | succ m ih =>
    intro k hk hm ρ S hJ
    unfold forCell
    rw [wp_bnd]
    have e : cellAt i k S = .ok ds[k]? S := by
      unfold cellAt
      rw [hi k ρ S hJ]
    rw [e, wp_ok]
    rcases Nat.lt_or_ge k ds.length with lt | ge
    · rw [List.getElem?_eq_getElem lt]
      show Wp (bnd (step ds[k] ρ) _ S) P
      rw [wp_bnd]
      refine wp_mono (hs k lt ρ S hJ) fun p S' ⟨h1, h2⟩ => ?_
      obtain ⟨a, ρ'⟩ := p
      dsimp only at h1 h2
      subst h1
      exact ih (k + 1) lt (by omega) ρ' S' h2
    · rw [List.getElem?_eq_none ge]
      have : k = ds.length := by omega
      subst this
      exact .ok (q ρ S hJ)
theorem for_cell {α : Type} {step : D → Env → M (Option α × Env)} (J : Nat → Env → St → Prop) {P : Option α × Env → St → Prop} {i : Nat} {ds : List D} {ρ : Env} {S : St} (hl : ds.length < turns) (h0 : J 0 ρ S) (hi : ∀ k ρ S, J k ρ S → S.cells[i]? = some (.lst ds)) (hs : ∀ k (h : k < ds.length) ρ S, J k ρ S → Wp (step ds[k] ρ S) fun p S' => p.1 = none ∧ J (k + 1) p.2 S')
    (q : ∀ ρ S, J ds.length ρ S → P (none, ρ) S) : Wp (forWalk step (.cell i) ρ S) P := for_cellG hi hs q turns 0 (Nat.zero_le _) (by omega) ρ S h0
theorem cut_3 {α : Type} (xs : List α) : cut xs none (some 3) = xs.take 3 := by
  unfold cut endOf
  show List.take (min 3 xs.length - 0) (List.drop 0 xs) = _
  rw [List.drop_zero, Nat.sub_zero]
  rcases Nat.le_total 3 xs.length with h | h
  · rw [Nat.min_eq_left h]
  · rw [Nat.min_eq_right h, List.take_length, List.take_of_length_le h]
theorem bf_len_d {ds : List D} : bfD .len [.lst ds] = some (.v (.d (.int ds.length))) := rfl
/-- a value that holds lines -/
inductive Src (S : St) (ls : List Ln) : Val → Prop
  | ofL : Src S ls (.d (.lst (lsD ls)))
  | ofT : Src S ls (.d (.tup (lsD ls)))
  | ofC {i : Nat} : S.cells[i]? = some (.lst (lsD ls)) → Src S ls (.r i)
theorem Src.notNon {S : St} {ls : List Ln} {a : Val} (h : Src S ls a) : RV.isNon (.v a) = false := by cases h <;> rfl
theorem Src.cls {S : St} {ls : List Ln} {a : Val} (h : Src S ls a) : clsOf S (.v a) = none := by
  rcases h with _ | _ | h
  · rfl
  · rfl
  · exact w_clR h
theorem Src.seen {S : St} {ls : List Ln} {a : Val} (h : Src S ls a) : RV.look S (.v a) = some (.lst (lsD ls)) ∨ RV.look S (.v a) = some (.tup (lsD ls)) := by
  rcases h with _ | _ | h
  · exact .inl rfl
  · exact .inr rfl
  · exact .inl (lk_R h)
theorem looks1' {S : St} {x : RV} {d : D} (h : x.look S = some d) : looks S [x] = some [d] := looks1 h
theorem Src.isi {S : St} {ls : List Ln} {a : Val} (h : Src S ls a) : (match clsOf S (.v a) with
    | some c => some (([.list, .tuple] : List Ty).any fun t => t == .own c)
    | none => (RV.look S (.v a)).map fun d => ([.list, .tuple] : List Ty).any fun t => tyOk t d == some true) = some true := by
  rw [h.cls]
  rcases h.seen with e | e <;> (rw [e]; rfl)
theorem Src.len {S : St} {ls : List Ln} {a : Val} (h : Src S ls a) : ∃ d, looks S [.v a] = some [d] ∧ bfD .len [d] = some (.v (.d (.int (lsD ls).length))) := by
  rcases h.seen with e | e
  · exact ⟨_, looks1 e, rfl⟩
  · exact ⟨_, looks1 e, rfl⟩
theorem Src.sset {S : St} {ls : List Ln} {a : Val} (h : Src S ls a) : ∃ d, looks S [.v a] = some [d] ∧ bfD .sortedSet [d] = bfD .sortedSet [.lst (lsD ls)] := by
  rcases h.seen with e | e
  · exact ⟨_, looks1 e, rfl⟩
  · exact ⟨_, looks1 e, rfl⟩
theorem Src.walk {S : St} {ls : List Ln} {a : Val} (h : Src S ls a) : walkOf S (.v a) = some (.row (lsD ls)) ∨ ∃ i, S.cells[i]? = some (.lst (lsD ls)) ∧ walkOf S (.v a) = some (.cell i) := by
  rcases h with _ | _ | h
  · exact .inl rfl
  · exact .inl rfl
  · exact .inr ⟨_, h, wk_cell h⟩
theorem comp_w {step : D → M (Option D)} {f : D → Option D} {w : Walk} {ds : List D} {S : St} {P : RV → St → Prop} (hw : w = .row ds ∨ ∃ i, S.cells[i]? = some (.lst ds) ∧ w = .cell i) (h : ∀ x ∈ ds, ∀ acc : List D, Wp (step x ⟨S.cells ++ [.lst acc], S.esc⟩) fun o S' => o = f x ∧ S' = ⟨S.cells ++ [.lst acc], S.esc⟩) (hl : ds.length < turns) (k : P (.tmp (.lst (ds.filterMap f))) S) :
    Wp (compNew (fun n => compWalk step n w) S) P := by
  rcases hw with rfl | ⟨i, hi, rfl⟩
  · exact comp_p h (by unfold turns at hl; unfold line; omega) k
  · exact comp_c hi h hl k
theorem src_walk_k {S : St} {ls : List Ln} {a : Val} {P : Walk → St → Prop} (h : Src S ls a) (k : ∀ w, (w = .row (lsD ls) ∨ ∃ i, S.cells[i]? = some (.lst (lsD ls)) ∧ w = .cell i) → P w S) : WalkK (.v a) S P := by
  rcases h.walk with e | ⟨i, hi, e⟩
  · exact walk_k e (k _ (.inl rfl))
  · exact walk_k e (k _ (.inr ⟨i, hi, rfl⟩))
/-- how an argument lies under its name -/
inductive Arg : RV → Val → Prop
  | v {a : Val} : Arg (.v a) a
  | l {ds : List D} : Arg (.tmp (.lst ds)) (.d (.lst ds))
theorem Arg.bind {cs : List Bool} {vs : List RV} {S S' : St} {xs : List Val} {av : RV} {a : Val} (h : Arg av a) (k : BindE cs vs S xs S') : BindE (false :: cs) (av :: vs) S (a :: xs) S' := by
  cases h
  · exact .v k
  · exact .lst k
theorem bm_clear {S : St} {i : Nat} {ds : List D} (h : S.cells[i]? = some (.lst ds)) : callBm .clear (.v (.r i)) [] S = .ok (.v (.d .non)) { S with cells := S.cells.set i (.lst []) } := by
  unfold callBm
  simp only [h]
  rfl
theorem sset_is {ds es : List D} (h : bfD .sortedSet [.lst ds] = some (.tmp (.lst es))) : es = (firsts [] ds).mergeSort (W.dataLe false D.pd) := by
  have h : (if setOk ds = true then (sortD (firsts [] ds)).map tmpL else none) = some (.tmp (.lst es)) := h
  split at h
  · obtain ⟨x, h1, h2⟩ := Option.map_eq_some_iff.mp h
    unfold sortD at h1
    split at h1
    · injection h1 with h1
      injection h2 with h2
      injection h2 with h2
      rw [← h2, ← h1]
    · cases h1
  · cases h
theorem alike_firsts (b : List Ln) : W.AllAlike ((firsts [] (lsD b)).map D.pd) := fun x hx y hy => by
  obtain ⟨f1, f2⟩ := firsts_nil (key_lsD b)
  obtain ⟨d, md, rfl⟩ := List.mem_map.mp hx
  obtain ⟨e, me, rfl⟩ := List.mem_map.mp hy
  obtain ⟨l1, _, rfl⟩ := List.mem_map.mp ((f2 _).mp md)
  obtain ⟨l2, _, rfl⟩ := List.mem_map.mp ((f2 _).mp me)
  exact alike_lnD l1 l2
theorem mem_lsD {ls : List Ln} {l : Ln} : lnD l ∈ lsD ls ↔ l ∈ ls := by
  constructor
  · intro m
    obtain ⟨l', m', e⟩ := List.mem_map.mp m
    rw [← lnD_inj e]
    exact m'
  · intro m
    exact List.mem_map.mpr ⟨l, m, rfl⟩
/-- the same lines, the same order -/
theorem sset_one {a b K K' : List Ln} (h : ∀ l, l ∈ a ↔ l ∈ b) (e : bfD .sortedSet [.lst (lsD a)] = some (.tmp (.lst (lsD K)))) (e' : bfD .sortedSet [.lst (lsD b)] = some (.tmp (.lst (lsD K')))) : K = K' := by
  apply lsD_inj
  rw [sset_is e, sset_is e']
  obtain ⟨f1, f2⟩ := firsts_nil (key_lsD a)
  obtain ⟨g1, g2⟩ := firsts_nil (key_lsD b)
  refine sort_perm ((List.perm_ext_iff_of_nodup f1 g1).mpr fun d => ?_) (fun d m => ?_) (alike_firsts b)
  · rw [f2, g2]
    constructor
    · intro m
      obtain ⟨l, ml, rfl⟩ := List.mem_map.mp m
      exact mem_lsD.mpr ((h l).mp ml)
    · intro m
      obtain ⟨l, ml, rfl⟩ := List.mem_map.mp m
      exact mem_lsD.mpr ((h l).mpr ml)
  · obtain ⟨l, _, rfl⟩ := List.mem_map.mp ((g2 d).mp m)
    exact key_lnD l
end Pk
end
section
set_option Elab.async false
set_option linter.all false
set_option maxRecDepth 100000
set_option maxHeartbeats 2000000
/-! Things: plain. -/
namespace Pk
open PySem
theorem ok_int (i : Int) : okD (.int i) = true := by
  unfold okD
  show (true && SeqAt.shaped (.int i)) = true
  show (true && (PyData.canLay0 (.int i) && decide (PyData.depth (.int i) ≤ 64))) = true
  simp [PyData.canLay0, PyData.depth]
theorem repr_gen {d : D} (ok : okD d = true) (hd : d.pd.depth ≤ 60) (hs : d.pd.showable = true) (hi : d.pd.intsShort 13 = true) (hw : d.pd.weight ≤ 60000) : reprD d = some d.pd.shown ∧ d.pd.shown.length ≤ 1000000 := by
  have hf := (okD_iff ok).1
  have h2 := (okD_iff ok).2
  have c := SeqAt.canLay_of_shaped h2
  have le : d.pd.shown.length ≤ 1000000 := by
    have := PyData.shown_le 13 (by decide) d.pd (PyData.leavesShort_of_canLay0 13 d.pd c hi)
    omega
  refine ⟨?_, le⟩
  unfold reprD
  rw [if_pos ⟨hf, hd, hs, Nat.le_trans le (by unfold line; decide)⟩]
structure Th where
  w : Str
  g : Int
  bs : List Str
instance : DecidableEq Th := fun a b => decidable_of_iff (a.w = b.w ∧ a.g = b.g ∧ a.bs = b.bs) ⟨fun h => by
  cases a
  cases b
  obtain ⟨h1, h2, h3⟩ := h
  dsimp only at h1 h2 h3
  rw [h1, h2, h3], fun h => by rw [h]; exact ⟨rfl, rfl, rfl⟩⟩
structure ThOk (t : Th) : Prop where
  nm : NameOk t.w
  g0 : 0 ≤ t.g
  g9 : t.g ≤ 9999
  up : t.bs.Pairwise lt
  ok : ∀ s ∈ t.bs, NameOk s
  len : t.bs.length ≤ 20
def thD (t : Th) : D := .ins 0 [(0, .str t.w), (1, .int t.g), (2, tD t.bs)]
def thT (t : Th) : D := .tup [.str t.w, .int t.g, tD t.bs]
theorem thT_inj {a b : Th} (h : thT a = thT b) : a = b := by
  injection h with h
  injection h with h1 h2
  injection h2 with h2 h3
  injection h3 with h3 _
  injection h1 with h1
  injection h2 with h2
  have h3 := tD_inj h3
  cases a
  cases b
  dsimp only at h1 h2 h3
  rw [h1, h2, h3]
theorem okL_th {t : Th} (h : ThOk t) : okD (.lst [.str t.w, .int t.g, tD t.bs]) = true := okD_lst fun d m => by
  simp only [List.mem_cons, List.not_mem_nil, or_false] at m
  rcases m with rfl | rfl | rfl
  · exact ⟨name_ok h.nm, by simp [D.pd, PyData.depth]⟩
  · exact ⟨ok_int _, by simp [D.pd, PyData.depth]⟩
  · exact ⟨ok_tD h.ok, Nat.le_trans (depth_tD _) (by decide)⟩
theorem key_thT (t : Th) : (thT t).key = true := by
  show (true && (true && (keysOk (sD t.bs) && true))) = true
  rw [key_sD]
  rfl
theorem eq_thT {a b : Th} (ha : ThOk a) (hb : ThOk b) : eqD (thT a) (thT b) = some (decide (a = b)) := by
  show eqF _ _ = _
  unfold eqF
  rw [if_pos ⟨okD_tup (okL_th ha), okD_tup (okL_th hb)⟩]
  refine congrArg some ?_
  have := key_eqv (key_thT a) (key_thT b)
  by_cases e : a = b
  · rw [decide_eq_true e]
    exact this.mpr (by rw [e])
  · rw [decide_eq_false e]
    cases c : PyData.eqv (thT a).pd (thT b).pd with
    | false => rfl
    | true => exact absurd (thT_inj (this.mp c)) e
def gS (g : Int) : Str := (toString g : String)
theorem gS_len {t : Th} (h : ThOk t) : (gS t.g).length ≤ 13 := PyData.shown_int_le (by have := h.g0; have := h.g9; omega)
theorem g_l14 {t : Th} (h : ThOk t) : t.g.natAbs.log2 ≤ 14 := by
  have h1 := h.g0
  have h2 := h.g9
  by_cases z : t.g.natAbs = 0
  · rw [z]; decide
  · exact Nat.le_of_lt ((Nat.log2_lt z).mpr (by omega))
theorem g_log {t : Th} (h : ThOk t) : t.g.natAbs.log2 < 1920 := by
  have := g_l14 h
  omega
theorem g_w {t : Th} (h : ThOk t) : PyData.weight (.int t.g) ≤ 15 := by
  have := g_l14 h
  simp only [PyData.weight]
  split <;> omega
theorem repr_w {t : Th} (h : ThOk t) : reprD (.str t.w) = some (D.str t.w).pd.shown ∧ (D.str t.w).pd.shown.length ≤ 1000000 := repr_gen (name_ok h.nm) (by simp [D.pd, PyData.depth]) rfl rfl (by
  have : t.w.cps.size ≤ 8 := h.nm.2.1
  simp only [D.pd, PyData.weight]
  omega)
theorem repr_g {t : Th} (h : ThOk t) : reprD (.int t.g) = some (gS t.g) := (repr_gen (ok_int t.g) (by simp [D.pd, PyData.depth]) (decide_eq_true (g_log h)) (decide_eq_true (gS_len h)) (Nat.le_trans (g_w h) (by decide))).1
theorem repr_b {t : Th} (h : ThOk t) : reprD (tD t.bs) = some (tD t.bs).pd.shown ∧ (tD t.bs).pd.shown.length ≤ 1000000 := by
  refine repr_gen (ok_tD h.ok) (Nat.le_trans (depth_tD _) (by decide)) ?_ ?_ ?_
  · show PyData.showable (.tuple (pds (sD t.bs))) = true
    simp [PyData.showable, sh_sD t.bs]
  · show PyData.intsShort 13 (.tuple (pds (sD t.bs))) = true
    simp [PyData.intsShort, sh_sD13 t.bs]
  · have h1 := w_sD h.ok
    have h2 := h.len
    show PyData.weight (.tuple (pds (sD t.bs))) ≤ 60000
    simp only [PyData.weight]
    omega
theorem repr_row {t : Th} (h : ThOk t) : ∃ z, reprD (.lst [.str t.w, .int t.g, tD t.bs]) = some z := by
  refine ⟨_, (repr_gen (okL_th h) ?_ ?_ ?_ ?_).1⟩
  · have := depth_tD t.bs
    show PyData.depth (.list [.str t.w, .int t.g, (tD t.bs).pd]) ≤ 60
    simp only [PyData.depth, PyData.depthAll]
    omega
  · show PyData.showable (.list [.str t.w, .int t.g, .tuple (pds (sD t.bs))]) = true
    simp [PyData.showable, PyData.showableAll, sh_sD t.bs, g_log h]
  · show PyData.intsShort 13 (.list [.str t.w, .int t.g, .tuple (pds (sD t.bs))]) = true
    have : (PyData.shown (.int t.g)).length ≤ 13 := gS_len h
    simp [PyData.intsShort, PyData.intsShortAll, sh_sD13 t.bs, this]
  · have h1 := w_sD h.ok
    have h2 := h.len
    have h3 : t.w.cps.size ≤ 8 := h.nm.2.1
    have h4 := g_w h
    show PyData.weight (.list [.str t.w, .int t.g, .tuple (pds (sD t.bs))]) ≤ 60000
    generalize PyData.int t.g = d at h4
    simp only [PyData.weight, PyData.weightAll]
    omega
def reprT (t : Th) : Str := "Thing(" ++ (D.str t.w).pd.shown ++ ", " ++ gS t.g ++ ", " ++ (tD t.bs).pd.shown ++ ")"
def strT (t : Th) : Str := if t.bs = [] then t.w ++ " " ++ gS t.g else t.w ++ " " ++ gS t.g ++ " " ++ Txt.join "," t.bs
theorem s_assoc (a b c : Str) : a ++ b ++ c = a ++ (b ++ c) := by
  show (⟨a.cps ++ b.cps ++ c.cps⟩ : Str) = ⟨a.cps ++ (b.cps ++ c.cps)⟩
  rw [Array.append_assoc]
theorem join_two (a b : Str) : Txt.join " " [a, b] = a ++ " " ++ b := txt_join _ _
theorem join_three (a b c : Str) : Txt.join " " [a, b, c] = a ++ " " ++ b ++ " " ++ c := by
  rw [txt_join]
  show a ++ " " ++ (b ++ " " ++ c) = _
  rw [s_assoc b, s_assoc (a ++ " " ++ b), s_assoc (a ++ " ") b]
theorem bags_len {t : Th} (h : ThOk t) : joinLen "," t.bs ≤ 180 := by
  have h1 := joinLen_le (s := ",") (B := 8) fun x m => (h.ok x m).2.1
  have h2 := h.len
  have : (("," : String) : Str).length = 1 := rfl
  rw [this] at h1
  omega
theorem bags_len2 {t : Th} (h : ThOk t) : (Txt.join "," t.bs).length ≤ 180 := by
  rw [txt_join]
  exact Nat.le_trans (join_le _ _) (bags_len h)
theorem eq_empty {ns : List Str} (h : ∀ s ∈ ns, NameOk s) : eqD (tD ns) (.tup []) = some (decide (ns = [])) := eq_tD (b := []) h fun s m => by cases m
theorem eq_key {d : D} (k : d.key = true) (ok : okD d = true) (s : strs2 d d = none) : eqD d d = some true := by
  unfold eqD
  rw [s]
  show eqF d d = _
  unfold eqF
  rw [if_pos ⟨ok, ok⟩]
  exact congrArg some ((key_eqv k k).mpr rfl)
theorem eq_bls (a b : Bool) : eqD (.bl a) (.bl b) = some (a == b) := by
  show eqF _ _ = _
  unfold eqF
  rw [if_pos ⟨rfl, rfl⟩]
  cases a <;> cases b <;> rfl
theorem add_lst {x y : List D} (h : x.length + y.length ≤ line) : binD .Add (.lst x) (.lst y) = some (.tmp (.lst (x ++ y))) := if_pos h
def BadT (t : Th) (x : D) : Prop := declines x = true ∨ ∃ t', x = thD t' ∧ t' ≠ t ∧ ThOk t'
section
variable {T : Tx} {S : St} {P : RV → St → Prop} {xs ys : List D}
open Classical in
theorem cmpo_eqLst (hx : okD (.lst xs) = false) (hp : insPairs T S xs ys) (q : P (.v (.d (.bl true))) S) : CmpO T .Eq (.tmp (.lst xs)) (.tmp (.lst ys)) S P := by
  refine cmpo_own (fun r S' e => ?_) ?_
  · have z : eqD (.lst xs) (.lst ys) = none := if_neg fun h => by rw [hx] at h; cases h.1
    have e : eqV (.tmp (.lst xs)) (.tmp (.lst ys)) S = _ := e
    unfold eqV at e
    simp [clsOf, looks, RV.look, MObj.toD, z, lift, fail] at e
  · show Wp (seqEq T .Eq (.tmp (.lst xs)) (.tmp (.lst ys)) S) P
    unfold seqEq
    show Wp (if insPairs T S xs ys then .ok (bv true) S else .err) P
    rw [if_pos hp]
    exact .ok q
open Classical in
theorem cmpo_neTup (hx : okD (.tup xs) = false) (hp : insPairs T S xs ys) (q : P (.v (.d (.bl false))) S) : CmpO T .NotEq (.v (.d (.tup xs))) (.v (.d (.tup ys))) S P := by
  refine cmpo_own (fun r S' e => ?_) ?_
  · have z : eqD (.tup xs) (.tup ys) = none := if_neg fun h => by rw [hx] at h; cases h.1
    have e : bnd (eqV (.v (.d (.tup xs))) (.v (.d (.tup ys)))) notV S = _ := e
    unfold bnd eqV at e
    simp [clsOf, looks, RV.look, z, lift, fail] at e
  · show Wp (seqEq T .NotEq (.v (.d (.tup xs))) (.v (.d (.tup ys))) S) P
    unfold seqEq
    show Wp (if insPairs T S xs ys then .ok (bv false) S else .err) P
    rw [if_pos hp]
    exact .ok q
end
end Pk
end
section
set_option Elab.async false
set_option linter.all false
set_option maxRecDepth 100000
set_option maxHeartbeats 4000000
/-! The bodies of law_k01_things. -/
namespace Pk.K01
open PySem PyProof.Rows
def b_is_name : List MS :=
   [(.ret (.and (.isi (.v 0) [.str]) (.and (.chn .LtE .LtE (.c (.int 1)) (.ob .len "__len__" (.v 0)) (.g "LONGEST")) (.bf .all [(.comp (.cmp .In (.v 1) (.g "LETTERS")) (.v 1) [1] (.e (.v 0)) (.c (.bl true)))]))))]
theorem e_is_name : I.body d_is_name = b_is_name := by kernel_rfl
theorem t_is_name : I.txt.defs (.fn "is_name") = some ⟨[false], 2, b_is_name⟩ := by kernel_rfl
theorem h_is_name (n : Nat) : (I.txt.at (n + 1)).has (.fn "is_name") = true := has_at t_is_name n
def b_is_within : List MS :=
   [(.ret (.and (.isi (.v 0) [.int]) (.and (.not (.isi (.v 0) [.bool])) (.chn .LtE .LtE (.v 1) (.v 0) (.v 2)))))]
theorem e_is_within : I.body d_is_within = b_is_within := by kernel_rfl
theorem t_is_within : I.txt.defs (.fn "is_within") = some ⟨[false, false, false], 3, b_is_within⟩ := by kernel_rfl
theorem h_is_within (n : Nat) : (I.txt.at (n + 1)).has (.fn "is_within") = true := has_at t_is_within n
def b_rises : List MS :=
   [(.ret (.bf .all [(.comp (.cmp .Lt (.v 1) (.v 2)) (.tup [(.v 1), (.v 2)]) [1, 2] (.zip [(.v 0), (.slc (.v 0) (.c (.int 1)) (.c .non) true false)]) (.c (.bl true)))]))]
theorem e_rises : I.body d_rises = b_rises := by kernel_rfl
theorem t_rises : I.txt.defs (.fn "rises") = some ⟨[false], 3, b_rises⟩ := by kernel_rfl
theorem h_rises (n : Nat) : (I.txt.at (n + 1)).has (.fn "rises") = true := has_at t_rises n
def b_is_rising_names : List MS :=
   [(.ret (.and (.isi (.v 0) [.tuple]) (.and (.bf .all [(.comp (.call "is_name" [(.v 1)] []) (.v 1) [1] (.e (.v 0)) (.c (.bl true)))]) (.call "rises" [(.v 0)] []))))]
theorem e_is_rising_names : I.body d_is_rising_names = b_is_rising_names := by kernel_rfl
theorem t_is_rising_names : I.txt.defs (.fn "is_rising_names") = some ⟨[false], 2, b_is_rising_names⟩ := by kernel_rfl
theorem h_is_rising_names (n : Nat) : (I.txt.at (n + 1)).has (.fn "is_rising_names") = true := has_at t_is_rising_names n
def b_need_name : List MS :=
   [(.ifs (.not (.call "is_name" [(.v 0)] [])) [(.rais 0 [])] [])]
theorem e_need_name : I.body d_need_name = b_need_name := by kernel_rfl
theorem t_need_name : I.txt.defs (.fn "need_name") = some ⟨[false], 1, b_need_name⟩ := by kernel_rfl
theorem h_need_name (n : Nat) : (I.txt.at (n + 1)).has (.fn "need_name") = true := has_at t_need_name n
def b_law_cell : List MS :=
   [(.ifs (.cmp .Lt (.v 1) (.ob .len "__len__" (.v 0))) [(.ret (.sub (.v 0) (.v 1)))] []),
    (.ret (.c (.int 0)))]
theorem e_law_cell : I.body d_law_cell = b_law_cell := by kernel_rfl
theorem t_law_cell : I.txt.defs (.fn "_law_cell") = some ⟨[false, false], 2, b_law_cell⟩ := by kernel_rfl
theorem h_law_cell (n : Nat) : (I.txt.at (n + 1)).has (.fn "_law_cell") = true := has_at t_law_cell n
def b_law_pen : List MS :=
   [(.asg 1 false (.bf .max [(.v 0), (.bin .Sub (.c (.int 0)) (.v 0))])),
    (.ret (.lst [(.v 1), (.bf .int [(.cmp .GtE (.v 1) (.bin .Pow (.c (.int 10)) (.c (.int 18))))])]))]
theorem e_law_pen : I.body d_law_pen = b_law_pen := by kernel_rfl
theorem t_law_pen : I.txt.defs (.fn "_law_pen") = some ⟨[false], 2, b_law_pen⟩ := by kernel_rfl
theorem h_law_pen (n : Nat) : (I.txt.at (n + 1)).has (.fn "_law_pen") = true := has_at t_law_pen n
def b_law_draw : List MS :=
   [(.ifs (.cmp .Eq (.sub (.v 0) (.c (.int 1))) (.c (.int 1))) [(.asgT [(.v 2), (.v 3)] (.bf .divmod [(.sub (.v 0) (.c (.int 0))), (.v 1)])),
    (.subA (.v 0) (.c (.int 0)) (.v 2)),
    (.ret (.v 3))] []),
    (.asg 4 false (.bin .Mod (.bin .Mult (.bin .Add (.bin .Mod (.sub (.v 0) (.c (.int 0))) (.c (.int 2147483647))) (.c (.int 40503))) (.c (.int 69621))) (.c (.int 2147483629)))),
    (.asg 4 false (.bin .Mod (.bin .Add (.bin .Mult (.v 4) (.v 4)) (.c (.int 7817))) (.c (.int 2147483587)))),
    (.subA (.v 0) (.c (.int 0)) (.bin .Mod (.bin .Add (.bin .Mult (.v 4) (.c (.int 48271))) (.c (.int 11))) (.c (.int 2147483629)))),
    (.ret (.bin .Mod (.bin .FloorDiv (.sub (.v 0) (.c (.int 0))) (.c (.int 32))) (.v 1)))]
theorem e_law_draw : I.body d_law_draw = b_law_draw := by kernel_rfl
theorem t_law_draw : I.txt.defs (.fn "_law_draw") = some ⟨[true, false], 5, b_law_draw⟩ := by kernel_rfl
theorem h_law_draw (n : Nat) : (I.txt.at (n + 1)).has (.fn "_law_draw") = true := has_at t_law_draw n
def b_law_name : List MS :=
   [(.asg 1 false (.call "_law_draw" [(.v 0), (.c (.int 8))] [])),
    (.ifs (.cmp .Eq (.v 1) (.c (.int 0))) [(.ret (.bm (.c (.str "")) .join [(.comp (.sub (.c (.str "abyz")) (.call "_law_draw" [(.v 0), (.c (.int 4))] [])) (.v 2) [2] (.range [(.bin .Add (.c (.int 1)) (.call "_law_draw" [(.v 0), (.c (.int 8))] []))]) (.c (.bl true)))]))] []),
    (.ret (.sub (.lst [(.c (.str "cape")), (.c (.str "coat")), (.c (.str "tent")), (.c (.str "pan")), (.c (.str "rope")), (.c (.str "cup")), (.c (.str "sock")), (.c (.str "map")), (.c (.str "lamp")), (.c (.str "knife"))]) (.call "_law_draw" [(.v 0), (.c (.int 10))] [])))]
theorem e_law_name : I.body d_law_name = b_law_name := by kernel_rfl
theorem t_law_name : I.txt.defs (.fn "_law_name") = some ⟨[true], 3, b_law_name⟩ := by kernel_rfl
theorem h_law_name (n : Nat) : (I.txt.at (n + 1)).has (.fn "_law_name") = true := has_at t_law_name n
def b_law_names : List MS :=
   [(.ret (.bf .tuple [(.bf .sortedSet [(.comp (.call "_law_name" [(.v 0)] []) (.v 2) [2] (.range [(.v 1)]) (.c (.bl true)))])]))]
theorem e_law_names : I.body d_law_names = b_law_names := by kernel_rfl
theorem t_law_names : I.txt.defs (.fn "_law_names") = some ⟨[true, false], 3, b_law_names⟩ := by kernel_rfl
theorem h_law_names (n : Nat) : (I.txt.at (n + 1)).has (.fn "_law_names") = true := has_at t_law_names n
def b_law_right : List MS :=
   [(.par [(3, false), (4, false)] [(.mk 0 [(.v 0), (.v 1), (.v 2)] []), (.mk 0 [(.v 2), (.v 1), (.v 0)] [(.scr [2, 1, 0]), (.int 1), .non])]),
    (.ifs (.cmp .NotEq (.ob .repr "__repr__" (.lst [(.attr (.v 3) 0), (.attr (.v 3) 1), (.attr (.v 3) 2)])) (.ob .repr "__repr__" (.lst [(.v 0), (.v 1), (.v 2)]))) [(.ret (.c (.bl false)))] []),
    (.ifs (.cmp .NotEq (.ob .repr "__repr__" (.v 3)) (.bin .Add (.bin .Add (.bin .Add (.bin .Add (.bin .Add (.bin .Add (.c (.str "Thing(")) (.ob .repr "__repr__" (.v 0))) (.c (.str ", "))) (.ob .repr "__repr__" (.v 1))) (.c (.str ", "))) (.ob .repr "__repr__" (.v 2))) (.c (.str ")")))) [(.ret (.c (.bl false)))] []),
    (.asg 5 false (.bin .Add (.bin .Add (.v 0) (.c (.str " "))) (.ob .str "__str__" (.v 1)))),
    (.ifs (.cmp .NotEq (.ob .str "__str__" (.v 3)) (.ite (.cmp .NotEq (.v 2) (.tup [])) (.bin .Add (.bin .Add (.v 5) (.c (.str " "))) (.bm (.c (.str ",")) .join [(.v 2)])) (.v 5))) [(.ret (.c (.bl false)))] []),
    (.ifs (.or (.not (.cmp .Eq (.v 3) (.v 4))) (.or (.cmp .NotEq (.v 3) (.v 4)) (.or (.not (.cmp .Eq (.lst [(.v 3)]) (.lst [(.v 4)]))) (.or (.cmp .NotEq (.tup [(.v 3)]) (.tup [(.v 4)])) (.cmp .NotIn (.v 3) (.lst [(.v 4)])))))) [(.ret (.c (.bl false)))] []),
    (.asg 6 false (.mk 0 [(.v 0)] [(.int 1), .non])),
    (.ifs (.or (.cmp .NotEq (.tup [(.attr (.v 6) 1), (.attr (.v 6) 2)]) (.tup [(.c (.int 1)), (.tup [])])) (.or (.cmp .NotEq (.v 6) (.mk 0 [(.v 0), (.c (.int 1)), (.c .non)] [])) (.cmp .NotEq (.mk 0 [(.v 0), (.c (.int 1)), (.tup [])] []) (.v 6)))) [(.ret (.c (.bl false)))] []),
    (.ifs (.cmp .IsNot (.cmp .Eq (.mk 0 [(.v 0), (.v 2)] [(.scr [0, 2, 1]), (.int 1), .non]) (.mk 0 [(.v 0), (.c (.int 1)), (.v 2)] [])) (.c (.bl true))) [(.ret (.c (.bl false)))] []),
    (.ret (.cmp .Eq (.cmp .Eq (.v 3) (.v 6)) (.and (.cmp .Eq (.v 1) (.c (.int 1))) (.cmp .Eq (.v 2) (.tup [])))))]
theorem e_law_right : I.body d_law_right = b_law_right := by kernel_rfl
theorem t_law_right : I.txt.defs (.fn "_law_right") = some ⟨[false, false, false], 7, b_law_right⟩ := by kernel_rfl
theorem h_law_right (n : Nat) : (I.txt.at (n + 1)).has (.fn "_law_right") = true := has_at t_law_right n
def b_law : List MS :=
   [(.loop (.v 1) (.e (.bin .Add (.lst [(.call "_law_cell" [(.v 0), (.c (.int 0))] [])]) (.slc (.v 0) (.c (.int 1)) (.c (.int 4)) true true))) [(.asg 2 true (.call "_law_pen" [(.v 1)] [])),
    (.loop (.v 3) (.range [(.c (.int 4))]) [(.par [(4, false), (5, false)] [(.call "_law_name" [(.v 2)] []), (.sub (.lst [(.c (.int 0)), (.c (.int 1)), (.c (.int 9999)), (.call "_law_draw" [(.v 2), (.c (.int 10000))] [])]) (.call "_law_draw" [(.v 2), (.c (.int 4))] []))]),
    (.asg 6 false (.call "_law_names" [(.v 2), (.call "_law_draw" [(.v 2), (.c (.int 9))] [])] [])),
    (.ifs (.not (.call "_law_right" [(.v 4), (.v 5), (.v 6)] [])) [(.ret (.c (.bl false)))] []),
    (.asg 7 false (.mk 0 [(.v 4), (.v 5), (.v 6)] [])),
    (.asg 8 true (.lst [(.mk 0 [(.ite (.cmp .Lt (.ob .len "__len__" (.v 4)) (.c (.int 8))) (.bin .Add (.v 4) (.c (.str "x"))) (.slc (.v 4) (.c (.int 1)) (.c .non) true false)), (.v 5), (.v 6)] [])])),
    (.ex (.bm (.v 8) .append [(.mk 0 [(.v 4), (.ite (.cmp .Lt (.v 5) (.c (.int 9999))) (.bin .Add (.v 5) (.c (.int 1))) (.c (.int 0))), (.v 6)] [])])),
    (.ex (.bm (.v 8) .append [(.mk 0 [(.v 4), (.v 5), (.ite (.cmp .NotEq (.v 6) (.tup [])) (.slc (.v 6) (.c (.int 1)) (.c .non) true false) (.tup [(.c (.str "aa"))]))] [])])),
    (.loop (.v 9) (.e (.bin .Add (.v 8) (.lst [(.v 4), (.tup [(.v 4), (.v 5), (.v 6)]), (.c .non), (.v 5), (.lst []), (.ob .repr "__repr__" (.v 7))]))) [(.ifs (.or (.cmp .Eq (.v 7) (.v 9)) (.or (.not (.cmp .NotEq (.v 7) (.v 9))) (.cmp .Eq (.v 9) (.v 7)))) [(.ret (.c (.bl false)))] [])])])]),
    (.ret (.c (.bl true)))]
theorem e_law : I.body d_law = b_law := by kernel_rfl
theorem t_law : I.txt.defs (.fn "law") = some ⟨[false], 10, b_law⟩ := by kernel_rfl
theorem h_law (n : Nat) : (I.txt.at (n + 1)).has (.fn "law") = true := has_at t_law n
def b_Thing_init : List MS :=
   [(.ex (.call "need_name" [(.v 1)] [])),
    (.ifs (.not (.call "is_within" [(.v 2), (.c (.int 0)), (.g "MOST_WEIGHT")] [])) [(.rais 0 [])] []),
    (.ifs (.and (.cmp .IsNot (.v 3) (.c .non)) (.not (.call "is_rising_names" [(.v 3)] []))) [(.rais 0 [])] []),
    (.attrA (.v 0) 0 false (.v 1)),
    (.attrA (.v 0) 1 false (.v 2)),
    (.attrA (.v 0) 2 false (.ite (.cmp .IsNot (.v 3) (.c .non)) (.v 3) (.tup [])))]
theorem e_Thing_init : I.body d_Thing_init = b_Thing_init := by kernel_rfl
theorem t_Thing_init : I.txt.defs (.init 0) = some ⟨[false, false, false, false], 4, b_Thing_init⟩ := by kernel_rfl
theorem h_Thing_init (n : Nat) : (I.txt.at (n + 1)).has (.init 0) = true := has_at t_Thing_init n
def b_Thing_eq : List MS :=
   [(.ifs (.not (.isi (.v 1) [.own 0])) [(.ret (.c (.bl false)))] []),
    (.ret (.cmp .Eq (.tup [(.attr (.v 0) 0), (.attr (.v 0) 1), (.attr (.v 0) 2)]) (.tup [(.attr (.v 1) 0), (.attr (.v 1) 1), (.attr (.v 1) 2)])))]
theorem e_Thing_eq : I.body d_Thing_eq = b_Thing_eq := by kernel_rfl
theorem t_Thing_eq : I.txt.defs (.me 0 "__eq__") = some ⟨[false, false], 2, b_Thing_eq⟩ := by kernel_rfl
theorem h_Thing_eq (n : Nat) : (I.txt.at (n + 1)).has (.me 0 "__eq__") = true := has_at t_Thing_eq n
def b_Thing_repr : List MS :=
   [(.ret (.jstr [(.c (.str "Thing(")), (.fmt true (.attr (.v 0) 0)), (.c (.str ", ")), (.fmt false (.attr (.v 0) 1)), (.c (.str ", ")), (.fmt true (.attr (.v 0) 2)), (.c (.str ")"))]))]
theorem e_Thing_repr : I.body d_Thing_repr = b_Thing_repr := by kernel_rfl
theorem t_Thing_repr : I.txt.defs (.me 0 "__repr__") = some ⟨[false], 1, b_Thing_repr⟩ := by kernel_rfl
theorem h_Thing_repr (n : Nat) : (I.txt.at (n + 1)).has (.me 0 "__repr__") = true := has_at t_Thing_repr n
def b_Thing_str : List MS :=
   [(.asg 1 true (.lst [(.attr (.v 0) 0), (.ob .str "__str__" (.attr (.v 0) 1))])),
    (.ifs (.cmp .NotEq (.attr (.v 0) 2) (.tup [])) [(.ex (.bm (.v 1) .append [(.bm (.c (.str ",")) .join [(.attr (.v 0) 2)])]))] []),
    (.ret (.bm (.c (.str " ")) .join [(.v 1)]))]
theorem e_Thing_str : I.body d_Thing_str = b_Thing_str := by kernel_rfl
theorem t_Thing_str : I.txt.defs (.me 0 "__str__") = some ⟨[false], 2, b_Thing_str⟩ := by kernel_rfl
theorem h_Thing_str (n : Nat) : (I.txt.at (n + 1)).has (.me 0 "__str__") = true := has_at t_Thing_str n
end Pk.K01
end
section
set_option Elab.async false
set_option linter.all false
set_option maxRecDepth 100000
set_option maxHeartbeats 2000000
/-! Names, the pen, things. -/
namespace Pk.K01
open PySem
noncomputable abbrev T (n : Nat) : Tx := I.txt.at n
theorem glob_at (n : Nat) (x : Str) : (T n).glob x = I.consts.lookup x := by cases n <;> rfl
theorem g_LETTERS (n : Nat) : (T n).glob "LETTERS" = some (.str "abcdefghijklmnopqrstuvwxyz") := by rw [glob_at]; rfl
theorem g_LONGEST (n : Nat) : (T n).glob "LONGEST" = some (.int 8) := by rw [glob_at]; rfl
theorem g_WEIGHT (n : Nat) : (T n).glob "MOST_WEIGHT" = some (.int 9999) := by rw [glob_at]; rfl
local macro_rules | `(tactic| decreasing_trivial) => `(tactic| repeat (first
  | (with_reducible apply x_v); (focus exact rfl)
  | (with_reducible refine x_c ?_)
  | (with_reducible refine l_cons ?_)
  | (with_reducible refine l_nil ?_)
  | (with_reducible refine b_cons ?_)
  | (with_reducible refine seq_nx ?_)
  | (with_reducible refine tst_b ?_)
  | (with_reducible refine if_t ?_)
  | (with_reducible refine if_f ?_)
  | (with_reducible refine if_nf ?_)
  | (with_reducible refine if_nt ?_)
  | (with_reducible apply x_call); (focus simp only [h_is_name, h_is_within, h_rises, h_is_rising_names, h_need_name, h_law_cell, h_law_pen, h_law_draw, h_law_name, h_law_names, h_law_right, h_law, h_Thing_init, h_Thing_eq, h_Thing_repr, h_Thing_str])
  | (with_reducible refine s_if ?_)
  | (with_reducible refine s_asg ?_)
  | (with_reducible refine s_ret ?_)
  | (with_reducible refine s_ex ?_)
  | (with_reducible refine lay_v ?_)
  | (with_reducible refine lay_cell ?_)
  | (with_reducible refine lay_lst ?_)
  | (with_reducible refine lay_dic ?_)
  | (with_reducible apply set_k); (focus repeat (first | exact SetE.z | apply SetE.s))
  | (with_reducible refine x_cmp ?_)
  | (with_reducible refine x_tup ?_)
  | (with_reducible refine x_bf ?_)
  | (with_reducible refine x_and ?_)
  | (with_reducible refine x_or ?_)
  | (with_reducible refine x_not ?_)
  | (with_reducible refine x_comp ?_)
  | (with_reducible refine x_ob ?_)
  | (with_reducible refine x_isi ?_)
  | (with_reducible refine x_attr ?_)
  | (with_reducible refine x_sub ?_)
  | (with_reducible refine x_bin ?_)
  | (with_reducible refine x_lst ?_)
  | (with_reducible refine x_slc ?_)
  | (with_reducible refine x_rev ?_)
  | (with_reducible refine x_ite ?_)
  | (with_reducible refine x_neg ?_)
  | (with_reducible refine x_chn ?_)
  | (with_reducible refine x_bm ?_)
  | (with_reducible apply x_mk); (focus simp only [h_is_name, h_is_within, h_rises, h_is_rising_names, h_need_name, h_law_cell, h_law_pen, h_law_draw, h_law_name, h_law_names, h_law_right, h_law, h_Thing_init, h_Thing_eq, h_Thing_repr, h_Thing_str])
  | (with_reducible refine x_meth ?_)
  | (with_reducible apply x_g); (focus first | exact g_LETTERS _ | exact g_LONGEST _ | exact g_WEIGHT _)
  | (with_reducible refine end_rt ?_)
  | (with_reducible refine end_nx ?_)
  | (with_reducible refine seq_rt ?_)
  | (with_reducible refine seq_bk ?_)
  | (with_reducible refine seq_ct ?_)
  | (with_reducible refine turn_nx ?_)
  | (with_reducible refine turn_rt ?_)
  | (with_reducible refine turn_bk ?_)
  | (with_reducible refine turn_ct ?_)
  | (with_reducible refine endl_n ?_)
  | (with_reducible refine endl_b ?_)
  | (with_reducible refine endl_r ?_)
  | (with_reducible refine i_e ?_)
  | (with_reducible refine i_range ?_)
  | (with_reducible refine i_zip ?_)
  | (with_reducible refine s_par ?_)
  | (with_reducible refine par_cons ?_)
  | (with_reducible refine par_nil ?_)
  | (with_reducible refine s_asgT ?_)
  | (with_reducible refine s_subA ?_)
  | (with_reducible refine s_attrA ?_)
  | (with_reducible refine s_loop ?_)
  | (with_reducible refine s_pass ?_)
  | (with_reducible refine s_brk ?_)
  | (with_reducible refine s_cont ?_)
  | (with_reducible refine b_nil ?_)
  | (with_reducible refine tst_n ?_)
  | (with_reducible refine cmpo (cmp_eqI ?_))
  | (with_reducible refine cmp_eqI ?_)
  | (with_reducible refine cmpo (cmp_neI ?_))
  | (with_reducible refine cmp_neI ?_)
  | (with_reducible refine cmpo (cmp_eqS ?_))
  | (with_reducible refine cmp_eqS ?_)
  | (with_reducible refine cmpo (cmp_neS ?_))
  | (with_reducible refine cmp_neS ?_)
  | (with_reducible refine cmpo (cmp_ltI ?_))
  | (with_reducible refine cmp_ltI ?_)
  | (with_reducible refine cmpo (cmp_leI ?_))
  | (with_reducible refine cmp_leI ?_)
  | (with_reducible refine cmpo (cmp_gtI ?_))
  | (with_reducible refine cmp_gtI ?_)
  | (with_reducible refine cmpo (cmp_geI ?_))
  | (with_reducible refine cmp_geI ?_)
  | (with_reducible refine part_n ?_)
  | (with_reducible refine part_i ?_)
  | (with_reducible refine cmpo_isB ?_)
  | (with_reducible refine cmpo_isnB ?_)
  | (with_reducible refine x_fmt ?_)
  | (with_reducible refine x_jstr ?_)
  | (with_reducible refine j_nil ?_)
  | (with_reducible refine j_cons ?_)
  | (with_reducible apply tup_k); (focus exact rfl); (focus exact rfl)
  | (with_reducible apply lst_k); (focus exact rfl); (focus exact rfl)
  | (with_reducible apply cls_k); (focus exact rfl)
  | (with_reducible apply ocl_n); (focus exact rfl)
  | (with_reducible apply ocl_s); (focus exact rfl)
  | (with_reducible refine cmpo (cmp_isT ?_ ?_ ?_)); (focus exact rfl); (focus exact rfl)
  | (with_reducible refine cmpo (cmp_isF ?_ ?_ ?_)); (focus exact rfl); (focus exact rfl)
  | (with_reducible refine cmpo (cmp_isnT ?_ ?_ ?_)); (focus exact rfl); (focus exact rfl)
  | (with_reducible refine cmpo (cmp_isnF ?_ ?_ ?_)); (focus exact rfl); (focus exact rfl)
  | (with_reducible refine isi_k (b := true) ?_ ?_); (focus exact rfl)
  | (with_reducible refine isi_k (b := false) ?_ ?_); (focus exact rfl)
  | (with_reducible apply attr_k); (focus exact rfl)
  | (with_reducible apply dat_k); (focus exact rfl)
  | (with_reducible apply walk_k); (focus exact rfl)
  | (with_reducible apply sub_k); (focus exact rfl); (focus exact rfl); (focus exact rfl)
  | (with_reducible apply tg_k); (focus repeat (first | exact SetE.z | exact TgL.nil | apply SetE.s | apply TgE.v | apply TgE.tup | apply TgL.cons))
  | (with_reducible refine bf_lst_t ?_)
  | (with_reducible refine bf_lst_l ?_)
  | (with_reducible refine bf_tup_l ?_)
  | (with_reducible refine bf_tup_t ?_)
  | (with_reducible refine bf_tup_d ?_)
  | (with_reducible refine back_r ?_)
  | (with_reducible refine back_s ?_)
  | (with_reducible refine bf_len_l ?_)
  | (with_reducible refine bf_len_t ?_)
  | (with_reducible refine bin_addI ?_)
  | (with_reducible refine bin_subI ?_)
  | (with_reducible apply step_t); (focus repeat (first | exact SetE.z | exact WipE.nil | apply SetE.s | apply WipE.cons)); (focus repeat (first | exact SetE.z | exact TgL.nil | apply SetE.s | apply TgE.v | apply TgE.tup | apply TgL.cons))
  | (with_reducible apply step_c); (focus repeat (first | exact SetE.z | exact WipE.nil | apply SetE.s | apply WipE.cons)); (focus repeat (first | exact SetE.z | exact TgL.nil | apply SetE.s | apply TgE.v | apply TgE.tup | apply TgL.cons))
  | (with_reducible apply step_f); (focus repeat (first | exact SetE.z | exact TgL.nil | apply SetE.s | apply TgE.v | apply TgE.tup | apply TgL.cons))
  | (with_reducible exact EnvE.nil)
  | (with_reducible exact BindE.nil)
  | (with_reducible apply EnvE.none)
  | (with_reducible apply EnvE.cons)
  | (with_reducible apply BindE.v)
  | (with_reducible apply BindE.lst)
  | (with_reducible apply BindE.dic)
  | (with_reducible apply BindE.cell)
  | (with_reducible exact pure_d)
  | (with_reducible exact pure_u)))
theorem is_name_ok (n : Nat) {s : Str} (h : NameOk s) (S : St) : (T (n + 1)).call (.fn "is_name") [.v (.d (.str s))] S = .ok (.v (.d (.bl true))) S := by
  obtain ⟨h1, h2, h3⟩ := h
  apply pure_k t_is_name
  · decreasing_trivial
  · decreasing_trivial
  unfold b_is_name
  decreasing_trivial
  refine bf_len_s (by unfold line; omega) ?_
  decreasing_trivial
  refine if_d (by omega) ?_
  decreasing_trivial
  refine if_d (by omega) ?_
  decreasing_trivial
  refine comp_p (f := fun _ => some (.bl true)) (fun x hx acc => ?_) ?_ ?_
  · obtain ⟨c, hc, rfl⟩ := List.mem_map.mp hx
    decreasing_trivial
    refine cmpo (cmp_d rfl rfl rfl (cm_inS.trans (by rw [letter_in (h3 c hc).1 (h3 c hc).2])) ?_)
    decreasing_trivial
    exact ⟨rfl, rfl⟩
  · unfold signs line
    rw [List.length_map]
    show s.cps.toList.length ≤ _
    rw [Array.length_toList]
    have : s.cps.size ≤ 8 := h2
    omega
  · decreasing_trivial
    refine all_yes_k ?_
    decreasing_trivial
theorem rises_ok (n : Nat) {ns : List Str} (h : ns.Pairwise lt) (hl : ns.length ≤ 1000) (S : St) : (T (n + 1)).call (.fn "rises") [.v (.d (tD ns))] S = .ok (.v (.d (.bl true))) S := by
  apply pure_k t_rises
  · decreasing_trivial
  · decreasing_trivial
  unfold b_rises
  decreasing_trivial
  refine slc_k rfl slc_T ?_
  rw [cut_1]
  decreasing_trivial
  refine zip_k rfl rfl ?_
  refine comp_p (f := fun _ => some (.bl true)) (fun x hx acc => ?_) ?_ ?_
  · obtain ⟨a, b, rfl, hab⟩ := zip_rise h x hx
    decreasing_trivial
    refine cmpo (cmp_d rfl rfl rfl (cm_ltS.trans (congrArg some (decide_eq_true hab))) ?_)
    decreasing_trivial
    exact ⟨rfl, rfl⟩
  · have := zipD_len (sD ns) ((sD ns).drop 1)
    unfold sD at this ⊢
    rw [List.length_map] at this
    unfold line
    omega
  · decreasing_trivial
    refine all_yes_k ?_
    decreasing_trivial
theorem law_cell_ok (n : Nat) (ns : List Int) (S : St) : ∃ i : Int, (T (n + 1)).call (.fn "_law_cell") [.v (.d (.scr ns)), .v (.d (.int 0))] S = .ok (.v (.d (.int i))) S := by
  cases ns with
  | cons i r =>
    refine ⟨i, ?_⟩
    apply pure_k t_law_cell
    · decreasing_trivial
    · decreasing_trivial
    unfold b_law_cell
    decreasing_trivial
    refine bf_k (ds := [.scr (i :: r)]) rfl (show bfD .len [.scr (i :: r)] = some (.v (.d (.int ((i :: r).length : Int)))) from rfl) ?_
    decreasing_trivial
    refine if_d (by rw [List.length_cons]; omega) ?_
    decreasing_trivial
  | nil =>
    refine ⟨0, ?_⟩
    apply pure_k t_law_cell
    · decreasing_trivial
    · decreasing_trivial
    unfold b_law_cell
    decreasing_trivial
    refine bf_k (ds := [.scr []]) rfl (show bfD .len [.scr []] = some (.v (.d (.int 0))) from rfl) ?_
    decreasing_trivial
    refine if_n (by omega) ?_
    decreasing_trivial
theorem law_pen_ok (n : Nat) (i : Int) (S : St) : ∃ x y : Int, 0 ≤ x ∧ (T (n + 1)).call (.fn "_law_pen") [.v (.d (.int i))] S = .ok (.tmp (.lst [.int x, .int y])) S := by
  refine ⟨if 0 - i > i then 0 - i else i, if decide ((10 : Int) ^ 18 ≤ (if 0 - i > i then 0 - i else i)) = true then 1 else 0, by split <;> omega, ?_⟩
  apply pure_k t_law_pen
  · decreasing_trivial
  · decreasing_trivial
  unfold b_law_pen
  decreasing_trivial
  refine bf_k rfl bf_mx ?_
  decreasing_trivial
  refine bin_k rfl rfl (ar_pow (by decide)) ?_
  decreasing_trivial
  refine bf_k rfl bf_ib ?_
  decreasing_trivial
  exact pure_u
theorem draw_ok (n : Nat) {k : Nat} {m : Int} {S : St} (hp : HasPen k S) (hm : 0 < m ∧ m < 1073741824) :
    Wp ((T (n + 1)).call (.fn "_law_draw") [.v (.r k), .v (.d (.int m))] S) fun v S' => PenS k S S' ∧ ∃ r : Int, v = .v (.d (.int r)) ∧ 0 ≤ r ∧ r < m := by
  have hp0 := hp
  obtain ⟨x, y, hx, hc⟩ := hp
  have hc0 : (⟨S.cells, []⟩ : St).cells[k]? = some (.lst [.int x, .int y]) := hc
  apply pen_k hp0 t_law_draw
  · decreasing_trivial
  · decreasing_trivial
  unfold b_law_draw
  decreasing_trivial
  refine sub_k (lk_R hc0) rfl rfl ?_
  decreasing_trivial
  refine if_both (fun c => ?_) fun c => ?_
  · decreasing_trivial
    refine sub_k (lk_R hc0) rfl rfl ?_
    decreasing_trivial
    refine bf_k rfl (bf_dm hm) ?_
    decreasing_trivial
    refine use (put_0 hc0) ?_
    decreasing_trivial
    exact ⟨_, ⟨S.cells.set k (.lst [.int (x / m), .int y]), []⟩, [], by rw [List.append_nil], ⟨rfl, x / m, y, Int.ediv_nonneg hx (Int.le_of_lt hm.1), rfl⟩, leaves_d rfl, x % m, rfl, Int.emod_nonneg x (by omega), Int.emod_lt_of_pos x hm.1⟩
  · decreasing_trivial
    refine sub_k (lk_R hc0) rfl rfl ?_
    decreasing_trivial
    refine bin_k rfl rfl (ar_mod (by decide)) ?_
    decreasing_trivial
    refine bin_k rfl rfl (ar_mul (.inr (by decide))) ?_
    decreasing_trivial
    refine bin_k rfl rfl (ar_mod (by decide)) ?_
    decreasing_trivial
    generalize hs : (x % 2147483647 + 40503) * 69621 % 2147483629 = u
    have hu : 0 ≤ u ∧ u < 2147483629 := by
      rw [← hs]
      exact ⟨Int.emod_nonneg _ (by decide), Int.emod_lt_of_pos _ (by decide)⟩
    refine bin_k rfl rfl (ar_mul (.inr (by omega))) ?_
    decreasing_trivial
    refine bin_k rfl rfl (ar_mod (by decide)) ?_
    decreasing_trivial
    refine bin_k rfl rfl (ar_mul (.inr (by decide))) ?_
    decreasing_trivial
    refine bin_k rfl rfl (ar_mod (by decide)) ?_
    decreasing_trivial
    generalize hv : ((u * u + 7817) % 2147483587 * 48271 + 11) % 2147483629 = z
    have hz : 0 ≤ z := by
      rw [← hv]
      exact Int.emod_nonneg _ (by decide)
    refine use (put_0 hc0) ?_
    decreasing_trivial
    have hc1 : (⟨S.cells.set k (.lst [.int z, .int y]), []⟩ : St).cells[k]? = some (.lst [.int z, .int y]) := List.getElem?_set_self hp0.lt
    refine sub_k (lk_R hc1) rfl rfl ?_
    decreasing_trivial
    refine bin_k rfl rfl (ar_div (by decide)) ?_
    decreasing_trivial
    refine bin_k rfl rfl (ar_mod hm.1) ?_
    decreasing_trivial
    exact ⟨_, ⟨S.cells.set k (.lst [.int z, .int y]), []⟩, [], by rw [List.append_nil], ⟨rfl, z, y, hz, rfl⟩, leaves_d rfl, z / 32 % m, rfl, Int.emod_nonneg _ (by omega), Int.emod_lt_of_pos _ hm.1⟩
/-- one of a few texts -/
theorem pick_ok (n : Nat) {k : Nat} {cs : List Str} {S : St} (hp : HasPen k S) (hl : 0 < cs.length ∧ cs.length < 1000) {P : RV → St → Prop} (q : ∀ s ∈ cs, ∀ S', PenS k S S' → P (.v (.d (.str s))) S') :
    Wp ((T (n + 1)).call (.fn "_law_draw") [.v (.r k), .v (.d (.int cs.length))] S) fun v S' => SubK (.tmp (.lst (sD cs))) v S' P := by
  refine wp_mono (draw_ok n hp (m := cs.length) (by omega)) fun v S' ⟨p, r, e, h0, h1⟩ => ?_
  subst e
  have hr : r.toNat < cs.length := by omega
  refine sub_k rfl rfl (r := .str cs[r.toNat]) ?_ (q _ (List.getElem_mem hr) S' p)
  show atD (sD cs) r = _
  unfold atD sD
  rw [if_pos h0, List.getElem?_map, List.getElem?_eq_getElem hr]
  rfl
theorem law_name_ok (n : Nat) {k : Nat} {S : St} (hp : HasPen k S) :
    Wp ((T (n + 2)).call (.fn "_law_name") [.v (.r k)] S) fun v S' => PenS k S S' ∧ ∃ s : Str, v = .v (.d (.str s)) ∧ NameOk s := by
  have hp0 : HasPen k ⟨S.cells, []⟩ := hp
  apply pen_k hp t_law_name
  · decreasing_trivial
  · decreasing_trivial
  unfold b_law_name
  decreasing_trivial
  refine wp_mono (draw_ok n hp0 (m := 8) (by decide)) fun v S1 ⟨p1, r, e, r0, r1⟩ => ?_
  subst e
  have hp1 := p1.has hp0
  decreasing_trivial
  refine if_both (fun c => ?_) fun c => ?_
  · decreasing_trivial
    refine bk_k rfl rfl ?_
    decreasing_trivial
    refine wp_mono (draw_ok n hp1 (m := 8) (by decide)) fun v S2 ⟨p2, r', e, r0', r1'⟩ => ?_
    subst e
    have hp2 := p2.has hp1
    decreasing_trivial
    refine range_k rfl (range1 (n := 1 + r') ⟨by omega, by omega⟩) ?_
    refine comp_pen (G := fun d => ∃ s : Str, d = .str s ∧ s.length = 1 ∧ ∀ c ∈ s.cps.toList, 97 ≤ c ∧ c ≤ 122) hp2 (by rw [range_len]; unfold line; omega) (fun x mx S3 h3 => ?_) fun acc S3 p3 hlen g => ?_
    · decreasing_trivial
      refine wp_mono (draw_ok n h3 (m := 4) (by decide)) fun v S4 ⟨p4, r4, e, r40, r41⟩ => ?_
      subst e
      obtain ⟨c, e, b⟩ := sign_ok r40 r41
      decreasing_trivial
      refine sub_k rfl rfl e ?_
      decreasing_trivial
      exact ⟨p4, _, rfl, _, rfl, rfl, fun d m => by
        have : d = c := by simpa using m
        rw [this]
        exact b⟩
    · obtain ⟨xs, rfl, hx⟩ := back_ones g
      rw [range_len] at hlen
      have hl : (sD xs).length = xs.length := List.length_map _
      have small : joinLen "" xs ≤ line := by
        have := joinLen_le (s := "") (B := 1) (xs := xs) fun s m => Nat.le_of_eq (hx s m).1
        rw [show (("" : String) : Str).length = 0 from rfl] at this
        unfold line
        omega
      decreasing_trivial
      refine use (bm_joinL (strs_sD xs) small) ?_
      decreasing_trivial
      have p := (p1.trans p2).trans p3
      exact ⟨_, S3, [], same_St p.esc, p, leaves_d p.esc, _, rfl, name_join hx (by omega) (by omega)⟩
  · decreasing_trivial
    refine pick_ok n (cs := ["cape", "coat", "tent", "pan", "rope", "cup", "sock", "map", "lamp", "knife"]) hp1 (by decide) fun s ms S2 p2 => ?_
    decreasing_trivial
    have p := p1.trans p2
    exact ⟨_, S2, [], same_St p.esc, p, leaves_d p.esc, s, rfl, many_ok s ms⟩
theorem is_within_ok (n : Nat) {g lo hi : Int} (h0 : lo ≤ g) (h1 : g ≤ hi) (S : St) : (T (n + 1)).call (.fn "is_within") [.v (.d (.int g)), .v (.d (.int lo)), .v (.d (.int hi))] S = .ok (.v (.d (.bl true))) S := by
  apply pure_k t_is_within
  · decreasing_trivial
  · decreasing_trivial
  unfold b_is_within
  decreasing_trivial
  refine if_d h0 ?_
  decreasing_trivial
  rw [decide_eq_true h1]
  exact pure_d
theorem rising_ok (n : Nat) {ns : List Str} (h : ns.Pairwise lt) (hn : ∀ s ∈ ns, NameOk s) (hh : ns.length ≤ 1000) (S : St) : (T (n + 2)).call (.fn "is_rising_names") [.v (.d (tD ns))] S = .ok (.v (.d (.bl true))) S := by
  have hl : (sD ns).length = ns.length := List.length_map _
  apply pure_k t_is_rising_names
  · decreasing_trivial
  · decreasing_trivial
  unfold b_is_rising_names
  decreasing_trivial
  refine comp_p (f := fun _ => some (.bl true)) (fun x hx acc => ?_) (by rw [hl]; unfold line; omega) ?_
  · obtain ⟨s, hs, rfl⟩ := List.mem_map.mp hx
    decreasing_trivial
    refine use (is_name_ok n (hn s hs) _) ?_
    decreasing_trivial
    exact ⟨rfl, rfl⟩
  decreasing_trivial
  refine all_yes_k ?_
  decreasing_trivial
  refine use (rises_ok n h (by omega) _) ?_
  decreasing_trivial
theorem need_name_ok (n : Nat) {s : Str} (h : NameOk s) (S : St) : (T (n + 2)).call (.fn "need_name") [.v (.d (.str s))] S = .ok (.v (.d .non)) S := by
  apply pure_k t_need_name
  · decreasing_trivial
  · decreasing_trivial
  unfold b_need_name
  decreasing_trivial
  refine use (is_name_ok n h _) ?_
  decreasing_trivial
/-- the bags as they are handed in: none, or a tuple -/
def bagsIn (t : Th) (x : D) : Prop := (x = .non ∧ t.bs = []) ∨ x = tD t.bs
theorem init_ok (n : Nat) {t : Th} (h : ThOk t) {x : D} (hx : bagsIn t x) (C : List MObj) (e : List Nat) :
    (T (n + 3)).call (.init 0) [.v (.r C.length), .v (.d (.str t.w)), .v (.d (.int t.g)), .v (.d x)] ⟨C ++ [.ins 0 []], e⟩ = .ok (.v (.d .non)) ⟨C ++ [.ins 0 [(0, .d (.str t.w)), (1, .d (.int t.g)), (2, .d (tD t.bs))]], e⟩ := by
  have e0 : putAttr (.v (.r C.length)) 0 (.d (.str t.w)) ⟨C ++ [.ins 0 []], []⟩ = .ok () ⟨C ++ [.ins 0 [(0, .d (.str t.w))]], []⟩ := by
    unfold putAttr
    simp [putF]
  have e1 : putAttr (.v (.r C.length)) 1 (.d (.int t.g)) ⟨C ++ [.ins 0 [(0, .d (.str t.w))]], []⟩ = .ok () ⟨C ++ [.ins 0 [(0, .d (.str t.w)), (1, .d (.int t.g))]], []⟩ := by
    unfold putAttr
    simp [putF]
  have e2 : putAttr (.v (.r C.length)) 2 (.d (tD t.bs)) ⟨C ++ [.ins 0 [(0, .d (.str t.w)), (1, .d (.int t.g))]], []⟩ = .ok () ⟨C ++ [.ins 0 [(0, .d (.str t.w)), (1, .d (.int t.g)), (2, .d (tD t.bs))]], []⟩ := by
    unfold putAttr
    simp [putF]
  refine ok_of_wp ?_
  apply call_k t_Thing_init
  · decreasing_trivial
  · decreasing_trivial
  unfold b_Thing_init
  decreasing_trivial
  refine use (need_name_ok n h.nm _) ?_
  decreasing_trivial
  refine use (is_within_ok (n + 1) h.g0 h.g9 _) ?_
  decreasing_trivial
  rcases hx with ⟨rfl, hb⟩ | rfl
  · decreasing_trivial
    refine use e0 ?_
    decreasing_trivial
    refine use e1 ?_
    decreasing_trivial
    rw [show (D.tup []) = tD t.bs by rw [hb]; rfl]
    refine use e2 ?_
    decreasing_trivial
    refine ⟨_, leaves_d rfl, rfl, ?_⟩
    congr 1
    rw [List.take_of_length_le (by simp)]
  · decreasing_trivial
    refine use (rising_ok n h.up h.ok (by have := h.len; omega) _) ?_
    decreasing_trivial
    refine use e0 ?_
    decreasing_trivial
    refine use e1 ?_
    decreasing_trivial
    refine use e2 ?_
    decreasing_trivial
    refine ⟨_, leaves_d rfl, rfl, ?_⟩
    congr 1
    rw [List.take_of_length_le (by simp)]
theorem make_ok (n : Nat) {t : Th} (h : ThOk t) {x : D} (hx : bagsIn t x) (S : St) : make (T (n + 3)) 0 [.v (.d (.str t.w)), .v (.d (.int t.g)), .v (.d x)] S = .ok (.v (.d (thD t))) S := by
  unfold make
  rw [init_ok n h hx S.cells S.esc]
  show (if I.txt.chg 0 = true then _ else _) = _
  rw [if_neg (by decide)]
  simp only [last_get]
  rw [show (S.cells ++ [MObj.ins 0 [(0, Val.d (.str t.w)), (1, Val.d (.int t.g)), (2, Val.d (tD t.bs))]]).drop (S.cells.length + 1) = [] by simp]
  simp [fsD, thD, dv]
theorem eq_ins (n : Nat) {a b : Th} (ha : ThOk a) (hb : ThOk b) (S : St) : (T (n + 1)).call (.me 0 "__eq__") [.v (.d (thD a)), .v (.d (thD b))] S = .ok (.v (.d (.bl (decide (a = b))))) S := by
  apply pure_k t_Thing_eq
  · decreasing_trivial
  · decreasing_trivial
  unfold b_Thing_eq thD
  decreasing_trivial
  refine cmpo (cmp_eq rfl rfl rfl rfl (eq_thT ha hb) ?_)
  decreasing_trivial
theorem eq_other (n : Nat) {a : Th} {d : D} (hd : declines d = true) (S : St) : (T (n + 1)).call (.me 0 "__eq__") [.v (.d (thD a)), .v (.d d)] S = .ok (.v (.d (.bl false))) S := by
  cases d <;> first
    | (exfalso; revert hd; exact Bool.false_ne_true)
    | (apply pure_k t_Thing_eq
       · decreasing_trivial
       · decreasing_trivial
       unfold b_Thing_eq thD
       decreasing_trivial)
theorem fmt_w {t : Th} (h : ThOk t) : fmtD true (.str t.w) = some (.v (.d (.str (D.str t.w).pd.shown))) := by
  show (reprD (.str t.w)).map sv = _
  rw [(repr_w h).1]
  rfl
theorem fmt_g {t : Th} (h : ThOk t) : fmtD false (.int t.g) = some (.v (.d (.str (gS t.g)))) := if_pos (g_log h)
theorem fmt_b {t : Th} (h : ThOk t) : fmtD true (tD t.bs) = some (.v (.d (.str (tD t.bs).pd.shown))) := by
  show (reprD (tD t.bs)).map sv = _
  rw [(repr_b h).1]
  rfl
theorem repr_ok (n : Nat) {t : Th} (h : ThOk t) (S : St) : (T (n + 1)).call (.me 0 "__repr__") [.v (.d (thD t))] S = .ok (.v (.d (.str (reprT t)))) S := by
  have h1 := (repr_w h).2
  have h2 := gS_len h
  have h3 := (repr_b h).2
  have l1 : (("Thing(" : String) : Str).length = 6 := rfl
  have l2 : ((", " : String) : Str).length = 2 := rfl
  have l3 : ((")" : String) : Str).length = 1 := rfl
  apply pure_k t_Thing_repr
  · decreasing_trivial
  · decreasing_trivial
  unfold b_Thing_repr thD
  decreasing_trivial
  have es : Str.empty ++ ("Thing(" : String) = (("Thing(" : String) : Str) := by decide
  refine j_k (by rw [es]; decide) ?_
  rw [es]
  decreasing_trivial
  refine fmt_k rfl (fmt_w h) ?_
  refine j_k (by rw [strLen_append, l1]; unfold line; omega) ?_
  decreasing_trivial
  refine j_k (by rw [strLen_append, strLen_append, l1, l2]; unfold line; omega) ?_
  decreasing_trivial
  refine fmt_k rfl (fmt_g h) ?_
  refine j_k (by rw [strLen_append, strLen_append, strLen_append, l1, l2]; unfold line; omega) ?_
  decreasing_trivial
  refine j_k (by rw [strLen_append, strLen_append, strLen_append, strLen_append, l1, l2]; unfold line; omega) ?_
  decreasing_trivial
  refine fmt_k rfl (fmt_b h) ?_
  refine j_k (by rw [strLen_append, strLen_append, strLen_append, strLen_append, strLen_append, l1, l2]; unfold line; omega) ?_
  decreasing_trivial
  refine j_k (by rw [strLen_append, strLen_append, strLen_append, strLen_append, strLen_append, strLen_append, l1, l2, l3]; unfold line; omega) ?_
  decreasing_trivial
  exact pure_d
theorem str_g {t : Th} (h : ThOk t) : bfD .str [.int t.g] = some (.v (.d (.str (gS t.g)))) := if_pos (g_log h)
theorem str_ok (n : Nat) {t : Th} (h : ThOk t) (S : St) : (T (n + 1)).call (.me 0 "__str__") [.v (.d (thD t))] S = .ok (.v (.d (.str (strT t)))) S := by
  have h1 := h.nm.2.1
  have h2 := gS_len h
  have h3 := bags_len2 h
  have l1 : ((" " : String) : Str).length = 1 := rfl
  apply pure_k t_Thing_str
  · decreasing_trivial
  · decreasing_trivial
  unfold b_Thing_str thD
  decreasing_trivial
  refine bf_k (by rfl) (str_g h) ?_
  decreasing_trivial
  refine cmpo (cmp_ne rfl rfl rfl rfl (eq_empty h.ok) ?_)
  decreasing_trivial
  by_cases c : t.bs = []
  · refine if_nd c ?_
    decreasing_trivial
    refine bk_k rfl rfl ?_
    decreasing_trivial
    refine use (bm_joinC (xs := [t.w, gS t.g]) last_get rfl (by show (t.w.length + _) + ((_ + _) + 0) ≤ line; rw [l1]; unfold line; omega)) ?_
    decreasing_trivial
    have es : strT t = Txt.join " " [t.w, gS t.g] := by
      rw [join_two]
      exact if_pos c
    rw [es]
    exact pure_w rfl rfl
  · refine if_nn c ?_
    decreasing_trivial
    refine bk_k (bk_R last_get) rfl ?_
    decreasing_trivial
    refine bk_k rfl rfl ?_
    decreasing_trivial
    refine use (bm_joinT (strs_sD t.bs) (by have := bags_len h; unfold line; omega)) ?_
    decreasing_trivial
    refine use (bm_append last_get (by show (2 : Nat) < line; decide)) ?_
    rw [last_set]
    decreasing_trivial
    refine bk_k rfl rfl ?_
    decreasing_trivial
    refine use (bm_joinC (xs := [t.w, gS t.g, Txt.join "," t.bs]) last_get rfl (by show (t.w.length + _) + ((_ + _) + ((_ + _) + 0)) ≤ line; rw [l1]; unfold line; omega)) ?_
    decreasing_trivial
    have es : strT t = Txt.join " " [t.w, gS t.g, Txt.join "," t.bs] := by
      rw [join_three]
      exact if_neg c
    rw [es]
    exact pure_w rfl rfl
end Pk.K01
end
section
set_option Elab.async false
set_option linter.all false
set_option maxRecDepth 100000
set_option maxHeartbeats 2000000
/-! The law's run. -/
namespace Pk.K01
open PySem
local macro_rules | `(tactic| decreasing_trivial) => `(tactic| repeat (first
  | (with_reducible apply x_v); (focus exact rfl)
  | (with_reducible refine x_c ?_)
  | (with_reducible refine l_cons ?_)
  | (with_reducible refine l_nil ?_)
  | (with_reducible refine b_cons ?_)
  | (with_reducible refine seq_nx ?_)
  | (with_reducible refine tst_b ?_)
  | (with_reducible refine if_t ?_)
  | (with_reducible refine if_f ?_)
  | (with_reducible refine if_nf ?_)
  | (with_reducible refine if_nt ?_)
  | (with_reducible apply x_call); (focus simp only [h_is_name, h_is_within, h_rises, h_is_rising_names, h_need_name, h_law_cell, h_law_pen, h_law_draw, h_law_name, h_law_names, h_law_right, h_law, h_Thing_init, h_Thing_eq, h_Thing_repr, h_Thing_str])
  | (with_reducible refine s_if ?_)
  | (with_reducible refine s_asg ?_)
  | (with_reducible refine s_ret ?_)
  | (with_reducible refine s_ex ?_)
  | (with_reducible refine lay_v ?_)
  | (with_reducible refine lay_cell ?_)
  | (with_reducible refine lay_lst ?_)
  | (with_reducible refine lay_dic ?_)
  | (with_reducible apply set_k); (focus repeat (first | exact SetE.z | apply SetE.s))
  | (with_reducible refine x_cmp ?_)
  | (with_reducible refine x_tup ?_)
  | (with_reducible refine x_bf ?_)
  | (with_reducible refine x_and ?_)
  | (with_reducible refine x_or ?_)
  | (with_reducible refine x_not ?_)
  | (with_reducible refine x_comp ?_)
  | (with_reducible refine x_ob ?_)
  | (with_reducible refine x_isi ?_)
  | (with_reducible refine x_attr ?_)
  | (with_reducible refine x_sub ?_)
  | (with_reducible refine x_bin ?_)
  | (with_reducible refine x_lst ?_)
  | (with_reducible refine x_slc ?_)
  | (with_reducible refine x_rev ?_)
  | (with_reducible refine x_ite ?_)
  | (with_reducible refine x_neg ?_)
  | (with_reducible refine x_chn ?_)
  | (with_reducible refine x_bm ?_)
  | (with_reducible apply x_mk); (focus simp only [h_is_name, h_is_within, h_rises, h_is_rising_names, h_need_name, h_law_cell, h_law_pen, h_law_draw, h_law_name, h_law_names, h_law_right, h_law, h_Thing_init, h_Thing_eq, h_Thing_repr, h_Thing_str])
  | (with_reducible refine x_meth ?_)
  | (with_reducible apply x_g); (focus first | exact g_LETTERS _ | exact g_LONGEST _ | exact g_WEIGHT _)
  | (with_reducible refine end_rt ?_)
  | (with_reducible refine end_nx ?_)
  | (with_reducible refine seq_rt ?_)
  | (with_reducible refine seq_bk ?_)
  | (with_reducible refine seq_ct ?_)
  | (with_reducible refine turn_nx ?_)
  | (with_reducible refine turn_rt ?_)
  | (with_reducible refine turn_bk ?_)
  | (with_reducible refine turn_ct ?_)
  | (with_reducible refine endl_n ?_)
  | (with_reducible refine endl_b ?_)
  | (with_reducible refine endl_r ?_)
  | (with_reducible refine i_e ?_)
  | (with_reducible refine i_range ?_)
  | (with_reducible refine i_zip ?_)
  | (with_reducible refine s_par ?_)
  | (with_reducible refine par_cons ?_)
  | (with_reducible refine par_nil ?_)
  | (with_reducible refine s_asgT ?_)
  | (with_reducible refine s_subA ?_)
  | (with_reducible refine s_attrA ?_)
  | (with_reducible refine s_loop ?_)
  | (with_reducible refine s_pass ?_)
  | (with_reducible refine s_brk ?_)
  | (with_reducible refine s_cont ?_)
  | (with_reducible refine b_nil ?_)
  | (with_reducible refine tst_n ?_)
  | (with_reducible refine cmpo (cmp_eqI ?_))
  | (with_reducible refine cmp_eqI ?_)
  | (with_reducible refine cmpo (cmp_neI ?_))
  | (with_reducible refine cmp_neI ?_)
  | (with_reducible refine cmpo (cmp_eqS ?_))
  | (with_reducible refine cmp_eqS ?_)
  | (with_reducible refine cmpo (cmp_neS ?_))
  | (with_reducible refine cmp_neS ?_)
  | (with_reducible refine cmpo (cmp_ltI ?_))
  | (with_reducible refine cmp_ltI ?_)
  | (with_reducible refine cmpo (cmp_leI ?_))
  | (with_reducible refine cmp_leI ?_)
  | (with_reducible refine cmpo (cmp_gtI ?_))
  | (with_reducible refine cmp_gtI ?_)
  | (with_reducible refine cmpo (cmp_geI ?_))
  | (with_reducible refine cmp_geI ?_)
  | (with_reducible refine part_n ?_)
  | (with_reducible refine part_i ?_)
  | (with_reducible refine cmpo_isB ?_)
  | (with_reducible refine cmpo_isnB ?_)
  | (with_reducible refine x_fmt ?_)
  | (with_reducible refine x_jstr ?_)
  | (with_reducible refine j_nil ?_)
  | (with_reducible refine j_cons ?_)
  | (with_reducible apply tup_k); (focus exact rfl); (focus exact rfl)
  | (with_reducible apply lst_k); (focus exact rfl); (focus exact rfl)
  | (with_reducible apply cls_k); (focus exact rfl)
  | (with_reducible apply ocl_n); (focus exact rfl)
  | (with_reducible apply ocl_s); (focus exact rfl)
  | (with_reducible refine cmpo (cmp_isT ?_ ?_ ?_)); (focus exact rfl); (focus exact rfl)
  | (with_reducible refine cmpo (cmp_isF ?_ ?_ ?_)); (focus exact rfl); (focus exact rfl)
  | (with_reducible refine cmpo (cmp_isnT ?_ ?_ ?_)); (focus exact rfl); (focus exact rfl)
  | (with_reducible refine cmpo (cmp_isnF ?_ ?_ ?_)); (focus exact rfl); (focus exact rfl)
  | (with_reducible refine isi_k (b := true) ?_ ?_); (focus exact rfl)
  | (with_reducible refine isi_k (b := false) ?_ ?_); (focus exact rfl)
  | (with_reducible apply attr_k); (focus exact rfl)
  | (with_reducible apply dat_k); (focus exact rfl)
  | (with_reducible apply walk_k); (focus exact rfl)
  | (with_reducible apply sub_k); (focus exact rfl); (focus exact rfl); (focus exact rfl)
  | (with_reducible apply tg_k); (focus repeat (first | exact SetE.z | exact TgL.nil | apply SetE.s | apply TgE.v | apply TgE.tup | apply TgL.cons))
  | (with_reducible refine bf_lst_t ?_)
  | (with_reducible refine bf_lst_l ?_)
  | (with_reducible refine bf_tup_l ?_)
  | (with_reducible refine bf_tup_t ?_)
  | (with_reducible refine bf_tup_d ?_)
  | (with_reducible refine back_r ?_)
  | (with_reducible refine back_s ?_)
  | (with_reducible refine bf_len_l ?_)
  | (with_reducible refine bf_len_t ?_)
  | (with_reducible refine bin_addI ?_)
  | (with_reducible refine bin_subI ?_)
  | (with_reducible apply step_t); (focus repeat (first | exact SetE.z | exact WipE.nil | apply SetE.s | apply WipE.cons)); (focus repeat (first | exact SetE.z | exact TgL.nil | apply SetE.s | apply TgE.v | apply TgE.tup | apply TgL.cons))
  | (with_reducible apply step_c); (focus repeat (first | exact SetE.z | exact WipE.nil | apply SetE.s | apply WipE.cons)); (focus repeat (first | exact SetE.z | exact TgL.nil | apply SetE.s | apply TgE.v | apply TgE.tup | apply TgL.cons))
  | (with_reducible apply step_f); (focus repeat (first | exact SetE.z | exact TgL.nil | apply SetE.s | apply TgE.v | apply TgE.tup | apply TgL.cons))
  | (with_reducible exact EnvE.nil)
  | (with_reducible exact BindE.nil)
  | (with_reducible apply EnvE.none)
  | (with_reducible apply EnvE.cons)
  | (with_reducible apply BindE.v)
  | (with_reducible apply BindE.lst)
  | (with_reducible apply BindE.dic)
  | (with_reducible apply BindE.cell)
  | (with_reducible exact pure_d)
  | (with_reducible exact pure_u)))
theorem names_ok (n : Nat) {k : Nat} {m : Int} {S : St} (hp : HasPen k S) (hm : 0 ≤ m ∧ m ≤ 20) :
    Wp ((T (n + 3)).call (.fn "_law_names") [.v (.r k), .v (.d (.int m))] S) fun v S' => PenS k S S' ∧ ∃ ms : List Str, v = .v (.d (tD ms)) ∧ ms.Pairwise lt ∧ (∀ s ∈ ms, NameOk s) ∧ ms.length ≤ 20 := by
  have hp0 : HasPen k ⟨S.cells, []⟩ := hp
  apply pen_k hp t_law_names
  · decreasing_trivial
  · decreasing_trivial
  unfold b_law_names
  decreasing_trivial
  refine range_k rfl (range1 (n := m) ⟨by omega, by omega⟩) ?_
  refine comp_pen (G := fun d => ∃ s, d = .str s ∧ NameOk s) hp0 (by rw [range_len]; unfold line; omega) (fun x mx S1 h1 => ?_) fun acc S' p hlen g => ?_
  · decreasing_trivial
    refine wp_mono (law_name_ok n h1) fun v S6 ⟨p6, s, e, hs⟩ => ?_
    subst e
    decreasing_trivial
    exact ⟨p6, _, rfl, s, rfl, hs⟩
  · obtain ⟨xs, rfl, hx⟩ := back_all g
    rw [range_len] at hlen
    have hl : (sD xs).length = xs.length := List.length_map _
    obtain ⟨ms, e, up, mem, le⟩ := sset_sD hx (by omega)
    decreasing_trivial
    refine bf_k rfl e ?_
    decreasing_trivial
    exact ⟨_, S', [], same_St p.esc, p, leaves_d p.esc, ms, rfl, up, fun s m => hx s ((mem s).mp m), by omega⟩
section
variable (n : Nat) {t : Th} {x : D} (S : St) {P : RV → St → Prop}
theorem ne_own (h : ThOk t) (hb : BadT t x) (k : P (.v (.d (.bl true))) S) : CmpO (T (n + 1)) .NotEq (.v (.d (thD t))) (.v (.d x)) S P := by
  refine cmpo_neL (c := 0) rfl (h_Thing_eq _) (by unfold known; exact Bool.or_true _) ?_
  rcases hb with hd | ⟨K', rfl, ne, ok⟩
  · exact use (eq_other n hd S) ⟨false, rfl, k⟩
  · exact use (eq_ins n h ok S) ⟨_, rfl, by rw [decide_eq_false (fun e => ne e.symm)]; exact k⟩
theorem eq_own (h : ThOk t) (hb : BadT t x) (k : P (.v (.d (.bl false))) S) : CmpO (T (n + 1)) .Eq (.v (.d (thD t))) (.v (.d x)) S P := by
  refine cmpo_eqL (c := 0) rfl (h_Thing_eq _) (by unfold known; exact Bool.or_true _) ?_
  rcases hb with hd | ⟨K', rfl, ne, ok⟩
  · exact use (eq_other n hd S) ⟨false, rfl, k⟩
  · exact use (eq_ins n h ok S) ⟨_, rfl, by rw [decide_eq_false (fun e => ne e.symm)]; exact k⟩
theorem eq_ownR (h : ThOk t) (hb : BadT t x) (k : P (.v (.d (.bl false))) S) : CmpO (T (n + 1)) .Eq (.v (.d x)) (.v (.d (thD t))) S P := by
  rcases hb with hd | ⟨K', rfl, ne, ok⟩
  · refine cmpo_eqR (c := 0) (by cases x <;> first | rfl | (exfalso; revert hd; exact Bool.false_ne_true)) rfl (h_Thing_eq _) hd ?_
    exact use (eq_other n hd S) ⟨false, rfl, k⟩
  · refine cmpo_eqL (c := 0) rfl (h_Thing_eq _) (by unfold known; exact Bool.or_true _) ?_
    exact use (eq_ins n ok h S) ⟨_, rfl, by rw [decide_eq_false ne]; exact k⟩
theorem eq_two {a b : Th} (ha : ThOk a) (hb : ThOk b) (k : P (.v (.d (.bl (decide (a = b))))) S) : CmpO (T (n + 1)) .Eq (.v (.d (thD a))) (.v (.d (thD b))) S P :=
  cmpo_eqL (c := 0) rfl (h_Thing_eq _) (by unfold known; exact Bool.or_true _) (use (eq_ins n ha hb S) ⟨_, rfl, k⟩)
theorem eq_same (h : ThOk t) (k : P (.v (.d (.bl true))) S) : CmpO (T (n + 1)) .Eq (.v (.d (thD t))) (.v (.d (thD t))) S P :=
  eq_two n S h h (by rw [decide_eq_true rfl]; exact k)
theorem ne_same (h : ThOk t) (k : P (.v (.d (.bl false))) S) : CmpO (T (n + 1)) .NotEq (.v (.d (thD t))) (.v (.d (thD t))) S P :=
  cmpo_neL (c := 0) rfl (h_Thing_eq _) (by unfold known; exact Bool.or_true _) (use (eq_ins n h h S) ⟨_, rfl, by rw [decide_eq_true rfl]; exact k⟩)
theorem pair_ok (h : ThOk t) : insPair (T (n + 1)) S (thD t) (thD t) := ⟨0, _, _, rfl, rfl, h_Thing_eq _, (eq_ins n h h S).trans (by rw [decide_eq_true rfl]; rfl)⟩
theorem not_in_ok (h : ThOk t) (k : P (.v (.d (.bl false))) S) : CmpO (T (n + 1)) .NotIn (.v (.d (thD t))) (.tmp (.lst [thD t])) S P := by
  refine cmpo_in (k := false) (.inr ⟨rfl, rfl⟩) (fun r S' e => ?_) rfl (pair_ok n S h) k
  have e : lift (((inD (thD t) [thD t]).map (!·)).map bv) S = .ok r S' := e
  have z : inD (thD t) [thD t] = none := if_neg fun h => by cases h.1
  rw [z] at e
  cases e
end
def right1 : List MS :=
   [(.par [(3, false), (4, false)] [(.mk 0 [(.v 0), (.v 1), (.v 2)] []), (.mk 0 [(.v 2), (.v 1), (.v 0)] [(.scr [2, 1, 0]), (.int 1), .non])]),
    (.ifs (.cmp .NotEq (.ob .repr "__repr__" (.lst [(.attr (.v 3) 0), (.attr (.v 3) 1), (.attr (.v 3) 2)])) (.ob .repr "__repr__" (.lst [(.v 0), (.v 1), (.v 2)]))) [(.ret (.c (.bl false)))] []),
    (.ifs (.cmp .NotEq (.ob .repr "__repr__" (.v 3)) (.bin .Add (.bin .Add (.bin .Add (.bin .Add (.bin .Add (.bin .Add (.c (.str "Thing(")) (.ob .repr "__repr__" (.v 0))) (.c (.str ", "))) (.ob .repr "__repr__" (.v 1))) (.c (.str ", "))) (.ob .repr "__repr__" (.v 2))) (.c (.str ")")))) [(.ret (.c (.bl false)))] []),
    (.asg 5 false (.bin .Add (.bin .Add (.v 0) (.c (.str " "))) (.ob .str "__str__" (.v 1)))),
    (.ifs (.cmp .NotEq (.ob .str "__str__" (.v 3)) (.ite (.cmp .NotEq (.v 2) (.tup [])) (.bin .Add (.bin .Add (.v 5) (.c (.str " "))) (.bm (.c (.str ",")) .join [(.v 2)])) (.v 5))) [(.ret (.c (.bl false)))] [])]
def right2 : List MS :=
   [(.ifs (.or (.not (.cmp .Eq (.v 3) (.v 4))) (.or (.cmp .NotEq (.v 3) (.v 4)) (.or (.not (.cmp .Eq (.lst [(.v 3)]) (.lst [(.v 4)]))) (.or (.cmp .NotEq (.tup [(.v 3)]) (.tup [(.v 4)])) (.cmp .NotIn (.v 3) (.lst [(.v 4)])))))) [(.ret (.c (.bl false)))] []),
    (.asg 6 false (.mk 0 [(.v 0)] [(.int 1), .non])),
    (.ifs (.or (.cmp .NotEq (.tup [(.attr (.v 6) 1), (.attr (.v 6) 2)]) (.tup [(.c (.int 1)), (.tup [])])) (.or (.cmp .NotEq (.v 6) (.mk 0 [(.v 0), (.c (.int 1)), (.c .non)] [])) (.cmp .NotEq (.mk 0 [(.v 0), (.c (.int 1)), (.tup [])] []) (.v 6)))) [(.ret (.c (.bl false)))] []),
    (.ifs (.cmp .IsNot (.cmp .Eq (.mk 0 [(.v 0), (.v 2)] [(.scr [0, 2, 1]), (.int 1), .non]) (.mk 0 [(.v 0), (.c (.int 1)), (.v 2)] [])) (.c (.bl true))) [(.ret (.c (.bl false)))] []),
    (.ret (.cmp .Eq (.cmp .Eq (.v 3) (.v 6)) (.and (.cmp .Eq (.v 1) (.c (.int 1))) (.cmp .Eq (.v 2) (.tup [])))))]
theorem right_eq : b_law_right = right1 ++ right2 := rfl
theorem right1_ok (n : Nat) {t : Th} (h : ThOk t) (S : St) : Wp (evB (T (n + 3)) right1 [some (.d (.str t.w)), some (.d (.int t.g)), some (.d (tD t.bs)), none, none, none, none] S) fun p S' => S' = S ∧ ∃ a, p = (.nx, [some (.d (.str t.w)), some (.d (.int t.g)), some (.d (tD t.bs)), some (.d (thD t)), some (.d (thD t)), a, none]) := by
  have h0 := h.nm.2.1
  have h1 := (repr_w h).2
  have h2 := gS_len h
  have h3 := (repr_b h).2
  have h4 := bags_len2 h
  have l0 : ((" " : String) : Str).length = 1 := rfl
  have l1 : (("Thing(" : String) : Str).length = 6 := rfl
  have l2 : ((", " : String) : Str).length = 2 := rfl
  have l3 : ((")" : String) : Str).length = 1 := rfl
  obtain ⟨z, ez⟩ := repr_row h
  have rR : bfD .repr [.lst [.str t.w, .int t.g, tD t.bs]] = some (.v (.d (.str z))) := by
    show (reprD (.lst [.str t.w, .int t.g, tD t.bs])).map sv = _
    rw [ez]
    rfl
  have rW : bfD .repr [.str t.w] = some (.v (.d (.str (D.str t.w).pd.shown))) := by
    show (reprD (.str t.w)).map sv = _
    rw [(repr_w h).1]
    rfl
  have rG : bfD .repr [.int t.g] = some (.v (.d (.str (gS t.g)))) := by
    show (reprD (.int t.g)).map sv = _
    rw [repr_g h]
    rfl
  have rB : bfD .repr [tD t.bs] = some (.v (.d (.str (tD t.bs).pd.shown))) := by
    show (reprD (tD t.bs)).map sv = _
    rw [(repr_b h).1]
    rfl
  unfold right1
  decreasing_trivial
  refine use (make_ok n h (.inr rfl) S) ?_
  decreasing_trivial
  refine use (make_ok n h (.inr rfl) S) ?_
  decreasing_trivial
  refine bf_k (by rfl) rR ?_
  decreasing_trivial
  refine bf_k (by rfl) rR ?_
  decreasing_trivial
  refine if_nd rfl ?_
  decreasing_trivial
  refine ⟨h_Thing_repr _, use (repr_ok (n + 2) h _) ?_⟩
  decreasing_trivial
  refine bf_k (by rfl) rW ?_
  decreasing_trivial
  refine bin_addS (by rw [l1]; unfold line; omega) ?_
  decreasing_trivial
  refine bin_addS (by rw [strLen_append, l1, l2]; unfold line; omega) ?_
  decreasing_trivial
  refine bf_k (by rfl) rG ?_
  decreasing_trivial
  refine bin_addS (by rw [strLen_append, strLen_append, l1, l2]; unfold line; omega) ?_
  decreasing_trivial
  refine bin_addS (by rw [strLen_append, strLen_append, strLen_append, l1, l2]; unfold line; omega) ?_
  decreasing_trivial
  refine bf_k (by rfl) rB ?_
  decreasing_trivial
  refine bin_addS (by rw [strLen_append, strLen_append, strLen_append, strLen_append, l1, l2]; unfold line; omega) ?_
  decreasing_trivial
  refine bin_addS (by rw [strLen_append, strLen_append, strLen_append, strLen_append, strLen_append, l1, l2, l3]; unfold line; omega) ?_
  decreasing_trivial
  refine if_nd rfl ?_
  decreasing_trivial
  refine bin_addS (by rw [l0]; unfold line; omega) ?_
  decreasing_trivial
  refine bf_k (by rfl) (str_g h) ?_
  decreasing_trivial
  refine bin_addS (by rw [strLen_append, l0]; unfold line; omega) ?_
  decreasing_trivial
  refine ⟨h_Thing_str _, use (str_ok (n + 2) h _) ?_⟩
  decreasing_trivial
  refine cmpo (cmp_ne rfl rfl rfl rfl (eq_empty h.ok) ?_)
  decreasing_trivial
  by_cases c : t.bs = []
  · refine if_nd c ?_
    decreasing_trivial
    refine if_nd (if_pos c) ?_
    decreasing_trivial
    exact ⟨rfl, _, rfl⟩
  · refine if_nn c ?_
    decreasing_trivial
    refine bin_addS (by rw [strLen_append, strLen_append, l0]; unfold line; omega) ?_
    decreasing_trivial
    refine bk_k rfl rfl ?_
    decreasing_trivial
    refine use (bm_joinT (strs_sD t.bs) (by have := bags_len h; unfold line; omega)) ?_
    decreasing_trivial
    refine bin_addS (by rw [strLen_append, strLen_append, strLen_append, l0]; unfold line; omega) ?_
    decreasing_trivial
    refine if_nd (if_neg c) ?_
    decreasing_trivial
    exact ⟨rfl, _, rfl⟩
theorem right_ok (n : Nat) {t : Th} (h : ThOk t) (S : St) : (T (n + 4)).call (.fn "_law_right") [.v (.d (.str t.w)), .v (.d (.int t.g)), .v (.d (tD t.bs))] S = .ok (.v (.d (.bl true))) S := by
  have hp : ThOk ⟨t.w, 1, []⟩ := ⟨h.nm, (by show (0 : Int) ≤ 1; decide), (by show (1 : Int) ≤ 9999; decide), .nil, (fun s m => by cases m), Nat.zero_le _⟩
  have hb : ThOk ⟨t.w, 1, t.bs⟩ := ⟨h.nm, (by show (0 : Int) ≤ 1; decide), (by show (1 : Int) ≤ 9999; decide), h.up, h.ok, h.len⟩
  have e1 : eqD (.tup [.int 1, .tup []]) (.tup [.int 1, .tup []]) = some true := eq_key rfl (okD_tup (okD_lst fun d m => by
    simp only [List.mem_cons, List.not_mem_nil, or_false] at m
    rcases m with rfl | rfl
    · exact ⟨ok_int _, by simp [D.pd, PyData.depth]⟩
    · exact ⟨okD_tup (okD_lst fun d m => by cases m), by simp [D.pd, pds, PyData.depth, PyData.depthAll]⟩)) rfl
  apply pure_k (t_law_right.trans (by rw [right_eq]))
  · decreasing_trivial
  · decreasing_trivial
  refine b_app (wp_mono (right1_ok n h _) fun p S' ⟨es, a, ep⟩ => ?_)
  subst es ep
  unfold right2
  decreasing_trivial
  refine eq_same (n + 2) _ h ?_
  decreasing_trivial
  refine ne_same (n + 2) _ h ?_
  decreasing_trivial
  refine cmpo_eqLst rfl ⟨pair_ok (n + 2) _ h, trivial⟩ ?_
  decreasing_trivial
  refine cmpo_neTup rfl ⟨pair_ok (n + 2) _ h, trivial⟩ ?_
  decreasing_trivial
  refine not_in_ok (n + 2) _ h ?_
  decreasing_trivial
  refine use (make_ok n hp (.inl ⟨rfl, rfl⟩) _) ?_
  decreasing_trivial
  refine cmpo (cmp_ne rfl rfl rfl rfl e1 ?_)
  decreasing_trivial
  refine use (make_ok n hp (.inl ⟨rfl, rfl⟩) _) ?_
  decreasing_trivial
  refine ne_same (n + 2) _ hp ?_
  decreasing_trivial
  refine use (make_ok n hp (.inr rfl) _) ?_
  decreasing_trivial
  refine ne_same (n + 2) _ hp ?_
  decreasing_trivial
  refine use (make_ok n hb (.inr rfl) _) ?_
  decreasing_trivial
  refine use (make_ok n hb (.inr rfl) _) ?_
  decreasing_trivial
  refine eq_same (n + 2) _ hb ?_
  decreasing_trivial
  refine if_e (b' := false) rfl ?_
  decreasing_trivial
  refine eq_two (n + 2) _ h hp ?_
  decreasing_trivial
  by_cases c : t.g = 1
  · refine if_d c ?_
    refine x_cmp ?_
    decreasing_trivial
    refine cmpo (cmp_eq rfl rfl rfl rfl (eq_empty h.ok) ?_)
    refine cmpo (cmp_eq rfl rfl rfl rfl (eq_bls _ _) ?_)
    have e : (decide (t = ⟨t.w, 1, []⟩) == decide (t.bs = [])) = true := by
      by_cases c2 : t.bs = []
      · rw [decide_eq_true c2, decide_eq_true (show t = ⟨t.w, 1, []⟩ from by cases t; dsimp only at c c2 ⊢; rw [c, c2])]
        rfl
      · rw [decide_eq_false c2, decide_eq_false (fun q => c2 (congrArg Th.bs q))]
        rfl
    rw [e]
    decreasing_trivial
  · refine if_n c ?_
    rw [decide_eq_false c]
    refine cmpo (cmp_eq rfl rfl rfl rfl (eq_bls _ _) ?_)
    rw [decide_eq_false (fun q => c (congrArg Th.g q))]
    decreasing_trivial
    exact pure_d
end Pk.K01
end
section
set_option Elab.async false
set_option linter.all false
set_option maxRecDepth 100000
set_option maxHeartbeats 2000000
/-! The law's run: the law. -/
namespace Pk.K01
open PySem
local macro_rules | `(tactic| decreasing_trivial) => `(tactic| repeat (first
  | (with_reducible apply x_v); (focus exact rfl)
  | (with_reducible refine x_c ?_)
  | (with_reducible refine l_cons ?_)
  | (with_reducible refine l_nil ?_)
  | (with_reducible refine b_cons ?_)
  | (with_reducible refine seq_nx ?_)
  | (with_reducible refine tst_b ?_)
  | (with_reducible refine if_t ?_)
  | (with_reducible refine if_f ?_)
  | (with_reducible refine if_nf ?_)
  | (with_reducible refine if_nt ?_)
  | (with_reducible apply x_call); (focus simp only [h_is_name, h_is_within, h_rises, h_is_rising_names, h_need_name, h_law_cell, h_law_pen, h_law_draw, h_law_name, h_law_names, h_law_right, h_law, h_Thing_init, h_Thing_eq, h_Thing_repr, h_Thing_str])
  | (with_reducible refine s_if ?_)
  | (with_reducible refine s_asg ?_)
  | (with_reducible refine s_ret ?_)
  | (with_reducible refine s_ex ?_)
  | (with_reducible refine lay_v ?_)
  | (with_reducible refine lay_cell ?_)
  | (with_reducible refine lay_lst ?_)
  | (with_reducible refine lay_dic ?_)
  | (with_reducible apply set_k); (focus repeat (first | exact SetE.z | apply SetE.s))
  | (with_reducible refine x_cmp ?_)
  | (with_reducible refine x_tup ?_)
  | (with_reducible refine x_bf ?_)
  | (with_reducible refine x_and ?_)
  | (with_reducible refine x_or ?_)
  | (with_reducible refine x_not ?_)
  | (with_reducible refine x_comp ?_)
  | (with_reducible refine x_ob ?_)
  | (with_reducible refine x_isi ?_)
  | (with_reducible refine x_attr ?_)
  | (with_reducible refine x_sub ?_)
  | (with_reducible refine x_bin ?_)
  | (with_reducible refine x_lst ?_)
  | (with_reducible refine x_slc ?_)
  | (with_reducible refine x_rev ?_)
  | (with_reducible refine x_ite ?_)
  | (with_reducible refine x_neg ?_)
  | (with_reducible refine x_chn ?_)
  | (with_reducible refine x_bm ?_)
  | (with_reducible apply x_mk); (focus simp only [h_is_name, h_is_within, h_rises, h_is_rising_names, h_need_name, h_law_cell, h_law_pen, h_law_draw, h_law_name, h_law_names, h_law_right, h_law, h_Thing_init, h_Thing_eq, h_Thing_repr, h_Thing_str])
  | (with_reducible refine x_meth ?_)
  | (with_reducible apply x_g); (focus first | exact g_LETTERS _ | exact g_LONGEST _ | exact g_WEIGHT _)
  | (with_reducible refine end_rt ?_)
  | (with_reducible refine end_nx ?_)
  | (with_reducible refine seq_rt ?_)
  | (with_reducible refine seq_bk ?_)
  | (with_reducible refine seq_ct ?_)
  | (with_reducible refine turn_nx ?_)
  | (with_reducible refine turn_rt ?_)
  | (with_reducible refine turn_bk ?_)
  | (with_reducible refine turn_ct ?_)
  | (with_reducible refine endl_n ?_)
  | (with_reducible refine endl_b ?_)
  | (with_reducible refine endl_r ?_)
  | (with_reducible refine i_e ?_)
  | (with_reducible refine i_range ?_)
  | (with_reducible refine i_zip ?_)
  | (with_reducible refine s_par ?_)
  | (with_reducible refine par_cons ?_)
  | (with_reducible refine par_nil ?_)
  | (with_reducible refine s_asgT ?_)
  | (with_reducible refine s_subA ?_)
  | (with_reducible refine s_attrA ?_)
  | (with_reducible refine s_loop ?_)
  | (with_reducible refine s_pass ?_)
  | (with_reducible refine s_brk ?_)
  | (with_reducible refine s_cont ?_)
  | (with_reducible refine b_nil ?_)
  | (with_reducible refine tst_n ?_)
  | (with_reducible refine cmpo (cmp_eqI ?_))
  | (with_reducible refine cmp_eqI ?_)
  | (with_reducible refine cmpo (cmp_neI ?_))
  | (with_reducible refine cmp_neI ?_)
  | (with_reducible refine cmpo (cmp_eqS ?_))
  | (with_reducible refine cmp_eqS ?_)
  | (with_reducible refine cmpo (cmp_neS ?_))
  | (with_reducible refine cmp_neS ?_)
  | (with_reducible refine cmpo (cmp_ltI ?_))
  | (with_reducible refine cmp_ltI ?_)
  | (with_reducible refine cmpo (cmp_leI ?_))
  | (with_reducible refine cmp_leI ?_)
  | (with_reducible refine cmpo (cmp_gtI ?_))
  | (with_reducible refine cmp_gtI ?_)
  | (with_reducible refine cmpo (cmp_geI ?_))
  | (with_reducible refine cmp_geI ?_)
  | (with_reducible refine part_n ?_)
  | (with_reducible refine part_i ?_)
  | (with_reducible refine cmpo_isB ?_)
  | (with_reducible refine cmpo_isnB ?_)
  | (with_reducible refine x_fmt ?_)
  | (with_reducible refine x_jstr ?_)
  | (with_reducible refine j_nil ?_)
  | (with_reducible refine j_cons ?_)
  | (with_reducible apply tup_k); (focus exact rfl); (focus exact rfl)
  | (with_reducible apply lst_k); (focus exact rfl); (focus exact rfl)
  | (with_reducible apply cls_k); (focus exact rfl)
  | (with_reducible apply ocl_n); (focus exact rfl)
  | (with_reducible apply ocl_s); (focus exact rfl)
  | (with_reducible refine cmpo (cmp_isT ?_ ?_ ?_)); (focus exact rfl); (focus exact rfl)
  | (with_reducible refine cmpo (cmp_isF ?_ ?_ ?_)); (focus exact rfl); (focus exact rfl)
  | (with_reducible refine cmpo (cmp_isnT ?_ ?_ ?_)); (focus exact rfl); (focus exact rfl)
  | (with_reducible refine cmpo (cmp_isnF ?_ ?_ ?_)); (focus exact rfl); (focus exact rfl)
  | (with_reducible refine isi_k (b := true) ?_ ?_); (focus exact rfl)
  | (with_reducible refine isi_k (b := false) ?_ ?_); (focus exact rfl)
  | (with_reducible apply attr_k); (focus exact rfl)
  | (with_reducible apply dat_k); (focus exact rfl)
  | (with_reducible apply walk_k); (focus exact rfl)
  | (with_reducible apply sub_k); (focus exact rfl); (focus exact rfl); (focus exact rfl)
  | (with_reducible apply tg_k); (focus repeat (first | exact SetE.z | exact TgL.nil | apply SetE.s | apply TgE.v | apply TgE.tup | apply TgL.cons))
  | (with_reducible refine bf_lst_t ?_)
  | (with_reducible refine bf_lst_l ?_)
  | (with_reducible refine bf_tup_l ?_)
  | (with_reducible refine bf_tup_t ?_)
  | (with_reducible refine bf_tup_d ?_)
  | (with_reducible refine back_r ?_)
  | (with_reducible refine back_s ?_)
  | (with_reducible refine bf_len_l ?_)
  | (with_reducible refine bf_len_t ?_)
  | (with_reducible refine bin_addI ?_)
  | (with_reducible refine bin_subI ?_)
  | (with_reducible apply step_t); (focus repeat (first | exact SetE.z | exact WipE.nil | apply SetE.s | apply WipE.cons)); (focus repeat (first | exact SetE.z | exact TgL.nil | apply SetE.s | apply TgE.v | apply TgE.tup | apply TgL.cons))
  | (with_reducible apply step_c); (focus repeat (first | exact SetE.z | exact WipE.nil | apply SetE.s | apply WipE.cons)); (focus repeat (first | exact SetE.z | exact TgL.nil | apply SetE.s | apply TgE.v | apply TgE.tup | apply TgL.cons))
  | (with_reducible apply step_f); (focus repeat (first | exact SetE.z | exact TgL.nil | apply SetE.s | apply TgE.v | apply TgE.tup | apply TgL.cons))
  | (with_reducible exact EnvE.nil)
  | (with_reducible exact BindE.nil)
  | (with_reducible apply EnvE.none)
  | (with_reducible apply EnvE.cons)
  | (with_reducible apply BindE.v)
  | (with_reducible apply BindE.lst)
  | (with_reducible apply BindE.dic)
  | (with_reducible apply BindE.cell)
  | (with_reducible exact pure_d)
  | (with_reducible exact pure_u)))
def altE1 : ME := (.ite (.cmp .Lt (.ob .len "__len__" (.v 4)) (.c (.int 8))) (.bin .Add (.v 4) (.c (.str "x"))) (.slc (.v 4) (.c (.int 1)) (.c .non) true false))
def altE2 : ME := (.ite (.cmp .Lt (.v 5) (.c (.int 9999))) (.bin .Add (.v 5) (.c (.int 1))) (.c (.int 0)))
def altE3 : ME := (.ite (.cmp .NotEq (.v 6) (.tup [])) (.slc (.v 6) (.c (.int 1)) (.c .non) true false) (.tup [(.c (.str "aa"))]))
theorem cps_app (a b : Str) : (a ++ b).cps.toList = a.cps.toList ++ b.cps.toList := by
  show (a.cps ++ b.cps).toList = _
  rw [Array.toList_append]
theorem alt1 (n : Nat) {t : Th} (h : ThOk t) (v0 v1 v2 v3 v5 v6 v7 v8 v9 : Option Val) (S : St) : Wp (evE (T n) altE1 [v0, v1, v2, v3, some (.d (.str t.w)), v5, v6, v7, v8, v9] S) fun v S' => S' = S ∧ ∃ w, v = .v (.d (.str w)) ∧ NameOk w ∧ w ≠ t.w := by
  obtain ⟨h1, h2, h3⟩ := h.nm
  unfold altE1
  decreasing_trivial
  refine bf_len_s (by unfold line; omega) ?_
  decreasing_trivial
  by_cases c : (t.w.length : Int) < 8
  · refine if_d c ?_
    decreasing_trivial
    refine bin_addS (by rw [show (("x" : String) : Str).length = 1 from rfl]; unfold line; omega) ?_
    refine ⟨rfl, _, rfl, ⟨by rw [strLen_append]; omega, by rw [strLen_append, show (("x" : String) : Str).length = 1 from rfl]; omega, fun c m => ?_⟩, fun e => ?_⟩
    · rw [cps_app] at m
      rcases List.mem_append.mp m with m | m
      · exact h3 c m
      · have : c = 120 := by
          have e : (("x" : String) : Str).cps.toList = [120] := by decide
          rw [e] at m
          exact List.mem_singleton.mp m
        omega
    · have := congrArg Str.length e
      rw [strLen_append, show (("x" : String) : Str).length = 1 from rfl] at this
      omega
  · refine if_n c ?_
    have hl : t.w.cps.toList.length = t.w.length := Array.length_toList
    have es : slcO (.str t.w) (some 1) none = some (.v (.d (.str ⟨(t.w.cps.toList.drop 1).toArray⟩))) := by
      show (if t.w.length ≤ line then some (sv ⟨(cut t.w.cps.toList (some 1) none).toArray⟩) else none) = _
      rw [if_pos (by unfold line; omega), cut_1]
      rfl
    have el : (⟨(t.w.cps.toList.drop 1).toArray⟩ : Str).length = t.w.length - 1 := by
      show (t.w.cps.toList.drop 1).toArray.size = _
      rw [List.size_toArray, List.length_drop, hl]
    decreasing_trivial
    refine slc_k rfl es ?_
    refine ⟨rfl, _, rfl, ⟨by rw [el]; omega, by rw [el]; omega, fun c m => h3 c (List.mem_of_mem_drop m)⟩, fun e => ?_⟩
    have := congrArg Str.length e
    rw [el] at this
    omega
theorem alt2 (n : Nat) {t : Th} (h : ThOk t) (v0 v1 v2 v3 v4 v6 v7 v8 v9 : Option Val) (S : St) : Wp (evE (T n) altE2 [v0, v1, v2, v3, v4, some (.d (.int t.g)), v6, v7, v8, v9] S) fun v S' => S' = S ∧ ∃ g : Int, v = .v (.d (.int g)) ∧ 0 ≤ g ∧ g ≤ 9999 ∧ g ≠ t.g := by
  have h0 := h.g0
  have h1 := h.g9
  unfold altE2
  decreasing_trivial
  by_cases c : t.g < 9999
  · refine if_d c ?_
    decreasing_trivial
    exact ⟨rfl, _, rfl, by omega, by omega, by omega⟩
  · refine if_n c ?_
    decreasing_trivial
    exact ⟨rfl, _, rfl, by omega, by omega, by omega⟩
theorem alt3 (n : Nat) {t : Th} (h : ThOk t) (v0 v1 v2 v3 v4 v5 v7 v8 v9 : Option Val) (S : St) : Wp (evE (T n) altE3 [v0, v1, v2, v3, v4, v5, some (.d (tD t.bs)), v7, v8, v9] S) fun v S' => S' = S ∧ ∃ bs : List Str, v = .v (.d (tD bs)) ∧ bs.Pairwise lt ∧ (∀ s ∈ bs, NameOk s) ∧ bs.length ≤ 20 ∧ bs ≠ t.bs := by
  unfold altE3
  decreasing_trivial
  refine cmpo (cmp_ne rfl rfl rfl rfl (eq_empty h.ok) ?_)
  decreasing_trivial
  by_cases c : t.bs = []
  · refine if_nd c ?_
    decreasing_trivial
    refine ⟨rfl, ["aa"], rfl, List.pairwise_singleton _ _, by decide, by decide, fun e => ?_⟩
    rw [c] at e
    cases e
  · refine if_nn c ?_
    have es : slcO (tD t.bs) (some 1) none = some (.v (.d (tD (t.bs.drop 1)))) := by
      show some (dv (.tup (cut (sD t.bs) (some 1) none))) = _
      rw [cut_1]
      unfold tD sD
      rw [List.map_drop]
      rfl
    decreasing_trivial
    refine slc_k rfl es ?_
    refine ⟨rfl, _, rfl, h.up.sublist (List.drop_sublist 1 _), (fun s m => h.ok s (List.mem_of_mem_drop m)), by rw [List.length_drop]; have := h.len; omega, fun e => ?_⟩
    have := congrArg List.length e
    rw [List.length_drop] at this
    have := List.length_pos_iff.mpr c
    omega
def headB : List MS :=
   [(.par [(4, false), (5, false)] [(.call "_law_name" [(.v 2)] []), (.sub (.lst [(.c (.int 0)), (.c (.int 1)), (.c (.int 9999)), (.call "_law_draw" [(.v 2), (.c (.int 10000))] [])]) (.call "_law_draw" [(.v 2), (.c (.int 4))] []))]),
    (.asg 6 false (.call "_law_names" [(.v 2), (.call "_law_draw" [(.v 2), (.c (.int 9))] [])] []))]
def tailB : List MS :=
   [(.ifs (.not (.call "_law_right" [(.v 4), (.v 5), (.v 6)] [])) [(.ret (.c (.bl false)))] []),
    (.asg 7 false (.mk 0 [(.v 4), (.v 5), (.v 6)] [])),
    (.asg 8 true (.lst [(.mk 0 [altE1, (.v 5), (.v 6)] [])])),
    (.ex (.bm (.v 8) .append [(.mk 0 [(.v 4), altE2, (.v 6)] [])])),
    (.ex (.bm (.v 8) .append [(.mk 0 [(.v 4), (.v 5), altE3] [])])),
    (.loop (.v 9) (.e (.bin .Add (.v 8) (.lst [(.v 4), (.tup [(.v 4), (.v 5), (.v 6)]), (.c .non), (.v 5), (.lst []), (.ob .repr "__repr__" (.v 7))]))) [(.ifs (.or (.cmp .Eq (.v 7) (.v 9)) (.or (.not (.cmp .NotEq (.v 7) (.v 9))) (.cmp .Eq (.v 9) (.v 7)))) [(.ret (.c (.bl false)))] [])])]
def b_law2 : List MS :=
   [(.loop (.v 1) (.e (.bin .Add (.lst [(.call "_law_cell" [(.v 0), (.c (.int 0))] [])]) (.slc (.v 0) (.c (.int 1)) (.c (.int 4)) true true))) [(.asg 2 true (.call "_law_pen" [(.v 1)] [])),
    (.loop (.v 3) (.range [(.c (.int 4))]) (headB ++ tailB))]),
    (.ret (.c (.bl true)))]
theorem b_law_eq : b_law = b_law2 := rfl
theorem tail_ok (n : Nat) {t : Th} (h : ThOk t) (v0 v1 v2 v3 v7 v8 v9 : Option Val) (S : St) : Wp (evB (T (n + 4)) tailB [v0, v1, v2, v3, some (.d (.str t.w)), some (.d (.int t.g)), some (.d (tD t.bs)), v7, v8, v9] S) fun p S' => ∃ D' b c d, S' = ⟨S.cells ++ D', S.esc⟩ ∧ p = (.nx, [v0, v1, v2, v3, some (.d (.str t.w)), some (.d (.int t.g)), some (.d (tD t.bs)), b, c, d]) := by
  unfold tailB
  decreasing_trivial
  refine use (right_ok n h _) ?_
  decreasing_trivial
  refine use (make_ok (n + 1) h (.inr rfl) _) ?_
  decreasing_trivial
  refine wp_mono (alt1 (n + 4) h ..) fun v S' ⟨e1, w, e2, hw, nw⟩ => ?_
  have e1 := e1.symm
  subst e1 e2
  have o1 : ThOk ⟨w, t.g, t.bs⟩ := ⟨hw, h.g0, h.g9, h.up, h.ok, h.len⟩
  decreasing_trivial
  refine use (make_ok (n + 1) o1 (.inr rfl) _) ?_
  decreasing_trivial
  refine bk_k (bk_R last_get) rfl ?_
  decreasing_trivial
  refine wp_mono (alt2 (n + 4) h ..) fun v S' ⟨e1, g, e2, hg0, hg9, ng⟩ => ?_
  have e1 := e1.symm
  subst e1 e2
  have o2 : ThOk ⟨t.w, g, t.bs⟩ := ⟨h.nm, hg0, hg9, h.up, h.ok, h.len⟩
  decreasing_trivial
  refine use (make_ok (n + 1) o2 (.inr rfl) _) ?_
  decreasing_trivial
  refine use (bm_append last_get (by show (1 : Nat) < line; decide)) ?_
  rw [last_set]
  decreasing_trivial
  refine bk_k (bk_R last_get) rfl ?_
  decreasing_trivial
  refine wp_mono (alt3 (n + 4) h ..) fun v S' ⟨e1, bs, e2, hu, ho, hl, nb⟩ => ?_
  have e1 := e1.symm
  subst e1 e2
  have o3 : ThOk ⟨t.w, t.g, bs⟩ := ⟨h.nm, h.g0, h.g9, hu, ho, hl⟩
  decreasing_trivial
  refine use (make_ok (n + 1) o3 (.inr rfl) _) ?_
  decreasing_trivial
  refine use (bm_append last_get (by show (2 : Nat) < line; decide)) ?_
  rw [last_set]
  decreasing_trivial
  refine ⟨h_Thing_repr _, use (repr_ok (n + 3) h _) ?_⟩
  decreasing_trivial
  refine bin_k (lk_R last_get) rfl (add_lst (by show (9 : Nat) ≤ line; decide)) ?_
  refine walk_k rfl ?_
  have hbad : ∀ x ∈ [thD ⟨w, t.g, t.bs⟩, thD ⟨t.w, g, t.bs⟩, thD ⟨t.w, t.g, bs⟩] ++ [.str t.w, .tup [.str t.w, .int t.g, tD t.bs], .non, .int t.g, .lst [], .str (reprT t)], BadT t x := fun x m => by
    rcases List.mem_append.mp m with m | m
    · simp only [List.mem_cons, List.not_mem_nil, or_false] at m
      rcases m with rfl | rfl | rfl
      · exact .inr ⟨_, rfl, fun e => nw (congrArg Th.w e), o1⟩
      · exact .inr ⟨_, rfl, fun e => ng (congrArg Th.g e), o2⟩
      · exact .inr ⟨_, rfl, fun e => nb (congrArg Th.bs e), o3⟩
    · simp only [List.mem_cons, List.not_mem_nil, or_false] at m
      rcases m with rfl | rfl | rfl | rfl | rfl | rfl <;> exact .inl rfl
  generalize hC : S.cells ++ [MObj.lst ([thD ⟨w, t.g, t.bs⟩] ++ [thD ⟨t.w, g, t.bs⟩] ++ [thD ⟨t.w, t.g, bs⟩])] = C'
  refine for_row (fun done ρ S' => S' = ⟨C', S.esc⟩ ∧ ∃ d, ρ = [v0, v1, v2, v3, some (.d (.str t.w)), some (.d (.int t.g)), some (.d (tD t.bs)), some (.d (thD t)), some (.r S.cells.length), d]) ⟨rfl, _, rfl⟩ ?_ ?_
  · rintro done x rest e ρ S' ⟨rfl, d, rfl⟩
    have bad := hbad x (mid_mem e)
    refine step_f (.v (.s (.s (.s (.s (.s (.s (.s (.s (.s .z)))))))))) ?_
    decreasing_trivial
    refine eq_own (n + 3) _ h bad ?_
    decreasing_trivial
    refine ne_own (n + 3) _ h bad ?_
    decreasing_trivial
    refine eq_ownR (n + 3) _ h bad ?_
    decreasing_trivial
    exact ⟨rfl, rfl, _, rfl⟩
  · rintro ρ S' ⟨rfl, d, rfl⟩
    decreasing_trivial
    exact ⟨[_], _, _, _, by rw [← hC], rfl⟩
theorem four_ok {r i : Int} (h0 : 0 ≤ r ∧ r < 10000) (h1 : 0 ≤ i ∧ i < 4) : ∃ g : Int, Pk.getD (.lst [.int 0, .int 1, .int 9999, .int r]) (.int i) = some (.int g) ∧ 0 ≤ g ∧ g ≤ 9999 := by
  have : i = 0 ∨ i = 1 ∨ i = 2 ∨ i = 3 := by omega
  rcases this with rfl | rfl | rfl | rfl
  · exact ⟨0, rfl, by decide, by decide⟩
  · exact ⟨1, rfl, by decide, by decide⟩
  · exact ⟨9999, rfl, by decide, by decide⟩
  · exact ⟨r, rfl, h0.1, by omega⟩
/-- a turn of the inner loop, the pen in the cell k -/
theorem turn_ok (n : Nat) {k : Nat} {S2 : St} (hp2 : HasPen k S2) (v0 v1 v3 v4 v5 v6 v7 v8 v9 : Option Val) : Wp (evB (T (n + 4)) (headB ++ tailB) [v0, v1, some (.r k), v3, v4, v5, v6, v7, v8, v9] S2) fun p S6 => ∃ S5 D', S6 = ⟨S5.cells ++ D', S5.esc⟩ ∧ PenS k S2 S5 ∧ ∃ ρ v4 v5 v6 v7 v8 v9, p = (.nx, ρ) ∧ ρ = [v0, v1, some (.r k), v3, v4, v5, v6, v7, v8, v9] := by
  refine b_app ?_
  unfold headB
  decreasing_trivial
  refine wp_mono (law_name_ok (n + 2) hp2) fun v S3 ⟨p3, w, e, hw⟩ => ?_
  subst e
  have hp3 := p3.has hp2
  decreasing_trivial
  refine wp_mono (draw_ok (n + 3) hp3 (m := 10000) (by decide)) fun v S4 ⟨p4, r, e, r0, r1⟩ => ?_
  subst e
  have hp4 := p4.has hp3
  decreasing_trivial
  refine wp_mono (draw_ok (n + 3) hp4 (m := 4) (by decide)) fun v S5 ⟨p5, i, e, i0, i1⟩ => ?_
  subst e
  have hp5 := p5.has hp4
  obtain ⟨g, eg, g0, g9⟩ := four_ok ⟨r0, r1⟩ ⟨i0, i1⟩
  decreasing_trivial
  refine sub_k rfl rfl eg ?_
  decreasing_trivial
  refine wp_mono (draw_ok (n + 3) hp5 (m := 9) (by decide)) fun v S6 ⟨p6, m, e, m0, m1⟩ => ?_
  subst e
  have hp6 := p6.has hp5
  decreasing_trivial
  refine wp_mono (names_ok (n + 1) hp6 (m := m) (by omega)) fun v S7 ⟨p7, bs, e, b1, b2, b3⟩ => ?_
  subst e
  have h : ThOk ⟨w, g, bs⟩ := ⟨hw, g0, g9, b1, b2, b3⟩
  decreasing_trivial
  refine wp_mono (tail_ok n h ..) fun p S8 ⟨D', b, c, d, e1, e2⟩ => ?_
  subst e1 e2
  exact ⟨S7, D', rfl, ((p3.trans p4).trans p5).trans (p6.trans p7), _, _, _, _, _, _, _, rfl, rfl⟩
theorem ev_any (n : Nat) (ns : List Int) (S : St) : Wp ((T (n + 5)).call (.fn "law") [.v (.d (.scr ns))] S) fun v S' => v = .v (.d (.bl true)) := by
  refine call_k (t_law.trans (by rw [b_law_eq])) (.v .nil) (.cons (.none (.none (.none (.none (.none (.none (.none (.none (.none .nil)))))))))) ?_
  unfold b_law2
  decreasing_trivial
  obtain ⟨i0, e0⟩ := law_cell_ok (n + 3) ns ⟨S.cells, []⟩
  refine use e0 ?_
  decreasing_trivial
  refine slc_k rfl rfl ?_
  refine bin_k rfl rfl (if_pos (c := ([D.int i0].length + ((cut ns (some 1) (some 4)).map D.int).length ≤ line)) (by
    have : (cut ns (some 1) (some 4)).length ≤ 3 := by
      unfold cut endOf
      rw [List.length_take]
      show min (min 4 ns.length - min 1 ns.length) _ ≤ 3
      omega
    rw [List.length_map]
    simp only [List.length_singleton, line]
    omega)) ?_
  refine walk_k rfl ?_
  refine for_row (fun done ρ S' => S'.esc = [] ∧ ∃ a1 a2 a3 a4 a5 a6 a7 a8 a9 : Option Val, ρ = [some (.d (.scr ns)), a1, a2, a3, a4, a5, a6, a7, a8, a9]) ⟨rfl, none, none, none, none, none, none, none, none, none, rfl⟩ ?_ ?_
  · rintro done x rest e ρ S' ⟨he, a1, a2, a3, a4, a5, a6, a7, a8, a9, rfl⟩
    have mx := mid_mem e
    have hx : ∃ i : Int, x = .int i := by
      rcases List.mem_cons.mp mx with rfl | m
      · exact ⟨_, rfl⟩
      · obtain ⟨i, _, rfl⟩ := List.mem_map.mp m
        exact ⟨i, rfl⟩
    obtain ⟨i, rfl⟩ := hx
    refine step_f (.v (.s .z)) ?_
    decreasing_trivial
    obtain ⟨px, py, p0, ep⟩ := law_pen_ok (n + 3) i S'
    refine use ep ?_
    decreasing_trivial
    refine range_k rfl (range1 (n := 4) ⟨by decide, by decide⟩) ?_
    refine for_row (fun done ρ S2 => S2.esc = [] ∧ HasPen S'.cells.length S2 ∧ ∃ a3 a4 a5 a6 a7 a8 a9 : Option Val, ρ = [some (.d (.scr ns)), some (.d (.int i)), some (.r S'.cells.length), a3, a4, a5, a6, a7, a8, a9]) ⟨he, ⟨px, py, p0, last_get⟩, a3, a4, a5, a6, a7, a8, a9, rfl⟩ ?_ ?_
    · clear e mx ep p0
      rintro done x rest e ρ S2 ⟨he2, hp2, a3, a4, a5, a6, a7, a8, a9, rfl⟩
      refine step_f (.v (.s (.s (.s .z)))) ?_
      refine wp_mono (turn_ok n hp2 ..) fun p S6 ⟨S5, D', e6, p5, ρ', b4, b5, b6, b7, b8, b9, e1, e2⟩ => ?_
      subst e1 e2 e6
      have hpe : HasPen S'.cells.length ⟨S5.cells ++ D', S5.esc⟩ := HasPen.more (C := S5.cells) (e := S5.esc) (p5.has hp2) _
      exact turn_nx ⟨rfl, p5.esc.trans he2, hpe, _, _, _, _, _, _, _, rfl⟩
    · rintro ρ S2 ⟨he2, hp2, a3, a4, a5, a6, a7, a8, a9, rfl⟩
      decreasing_trivial
      exact ⟨rfl, he2, _, _, _, _, _, _, _, _, _, rfl⟩
  · rintro ρ S' ⟨he, a1, a2, a3, a4, a5, a6, a7, a8, a9, rfl⟩
    decreasing_trivial
    exact ⟨_, leaves_d he, rfl⟩
end Pk.K01
end
set_option Elab.async false
set_option linter.all false
set_option maxRecDepth 100000
set_option maxHeartbeats 0
namespace Pk.K01
open PySem PySem.W PyProof.Rows
theorem wp_end {r : Res RV} (h : Wp r fun v _ => v = .v (.d (.bl true))) : ∃ S', r = .ok (bv true) S' := by
  cases h with
  | ok h => exact ⟨_, by rw [h]; rfl⟩
theorem ev : ∀ ns : List Int, ns.length ≤ 63 → ∃ S', callDef (I.txt.at 100) (I.df d_law) [dv (.scr ns)] ⟨[], []⟩ = .ok (bv true) S' := fun ns _ => by
  have h := ev_any 96 ns ⟨[], []⟩
  have e : I.df d_law = ⟨[false], 10, b_law⟩ := by kernel_rfl
  rw [e]
  rw [show T (96 + 5) = I.txt.at (100 + 1) from rfl, at_call I.txt t_law] at h
  exact wp_end h
end Pk.K01
open PySem PySem.W PySem.Calls PyProof.Rows
theorem PySem.Challenge.cw_packbags_k01_things_holds : PySem.Challenge.rw_packbags_k01_things.Holds := by
  w_on; o_law
  refine HandSHeadRun.head_any (r := Pk.K01.R) (q := view Pk.K01.R.prog [22]) (H := Pk.K01.hk) (ob := Pk.K01.ob) (M := 20000) (loose := Pk.K01.loose) (d := HandSHeadRun.topDef Pk.K01.R.prog 22) (kwd := []) Pk.K01.ob_eq
    (by kernel_rfl) (fun s => by kernel_rfl) Pk.K01.run (by kernel_rfl) (by kernel_rfl) (by kernel_rfl) (by rfl) (by first | assumption | decide +kernel) (by decide +kernel) ⟨rfl, rfl, rfl, rfl, rfl, by decide +kernel⟩ ?hw ?hc
  case hw => w_witness2
  case hc =>
    have e : (HandSHeadRun.topDef Pk.K01.R.prog 22).name = ("law" : PySem.Str) := by kernel_rfl
    exact Pk.walk_pk (l := PySem.Challenge.rw_packbags_k01_things) (dL := Pk.K01.d_law) (lv := 100) (n := 63) Pk.K01.ok (by simp [Pk.K01.I]) (congrArg Pk.FId.fn e.symm) rfl rfl
      (fun K f fd F s u => F.bindsA (ps := ["_law_script"]) (fun _ _ _ _ _ _ us hl => match us, hl with | [_], _ => rfl) s [u] rfl) rfl (by decide) (by kernel_rfl) ⟨rfl, by decide, by decide⟩ Pk.K01.ev
