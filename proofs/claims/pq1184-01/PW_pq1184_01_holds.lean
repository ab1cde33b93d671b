import PyProof.Rows.All
import Wide.All
import OpenK.AllK
import Wide.FinOn
import PyProof.Comp
import PyProof.CompMap
import PyProof.CompUse
import PyProof.CompFree
import PyProof.DictDisplay
import PyProof.WalksMore
import PyProof.RangeFor
import PyProof.LetGo
import PyProof.ListStr
import Wide.WTab
import KE.BytesMake
import KE.KBytesWalk
import KE.KBytesCut
import KE.KRevSl
import ObjForm.ListNI
import PySem.Challenge.RW_pq1184_01
open PySem PySem.W PyProof.Rows
set_option Elab.async false
set_option linter.all false
set_option linter.unusedVariables false
set_option linter.unusedSimpArgs false
set_option linter.deprecated false
set_option backward.eqns.nonrecursive false
set_option bootstrap.genMatcherCode false
namespace Mine
noncomputable section
section
theorem typeName_bytes : typeName (.type "bytes") = pure "bytes" := by unfold typeName; rw [find?_eq_fast]; kernel_rfl
theorem none_eq_bytes (a : Array UInt8) (t : Tok) :
    Gives (Builtin.«NoneType.__eq__» ⟨[.none, .bytes a t], []⟩) (.val (Value.notImplemented)) :=
  .of_wp fun M A E s Q h => by obtain ⟨hp, g, d, tk, os⟩ := s; wp_walk; exact ⟨_, rfl, h⟩
theorem bytes_eq_none (a : Array UInt8) (t : Tok) :
    Gives (Builtin.«bytes.__eq__» ⟨[.bytes a t, .none], []⟩) (.val (Value.notImplemented)) :=
  .of_wp fun M A E s Q h => by
    obtain ⟨hp, g, d, tk, os⟩ := s; wp_walk
    refine wpAny_of_eq F.sub_NoneType_bytes ?_
    exact wpAny_bind (wpAny_rule (wpAny_pure ⟨_, rfl, h⟩))
theorem eq_none_bytes {A : Around} {s : Shared} {a : Array UInt8} {t : Tok} {prog : Program} {w : World} {E : Value → Shared → Prop} {Q : Value → Shared → Prop} (h : Q (.bool false) s) : wpAny (model prog w) A (compareOp .Eq .none (.bytes a t)) Q E s := by
  show wpAny _ A (richCompare .Eq _ _) Q E s
  have slot : Slot "bytes" (cmpInfo .Eq).2.2 "bytes.__eq__" := FB.slot_bytes_eq
  exact EqNone.wpAny_richCompare_eq_decline (k := false) (fun _ => rfl) (fun s' => typeIs_bytes s' a t) (by decide) F.sub_bytes_NoneType F.slot_NoneType_eq slot rfl
    (call_gives F.slot_NoneType_eq rfl F.entry_NoneType_eq (F.args_NoneType_eq_2 _ _) (none_eq_bytes a t)
      ⟨rfl, call_gives slot (typeIs_bytes s a t) FB.entry_bytes_eq (FB.args_bytes_eq_2 _ _) (bytes_eq_none a t) ⟨rfl, h⟩⟩)

theorem contains_int {A : Around} {s : Shared} {b : Array UInt8} {t u : Tok} {x : Int} {prog : Program} {w : World} {E : Value → Shared → Prop} {Q : Value → Shared → Prop} (h0 : 0 ≤ x) (h1 : x < 256) (h : Q (.bool (b.contains x.toNat.toUInt8)) s) :
    wpAny (model prog w) A (compareOp .In (.int x t) (.bytes b u)) Q E s := by
  have g : Gives (Builtin.«bytes.__contains__» ⟨[.bytes b u, .int x t], []⟩) (.val (.bool (b.contains x.toNat.toUInt8))) := .of_wp fun M A E s Q h => by
    show wpAny M A (Builtin.Bytes.containsIn "bytes.__contains__" (.bytes b u) (.int x t) >>= fun r => ret (.bool r)) _ E s
    refine wpAny_bind ?_
    unfold Builtin.Bytes.containsIn
    refine wpAny_bind (wpAny_attempt (wpAny_of_eq (a := x) rfl ?_))
    refine wpAny_bind (wpAny_of_eq KBy.buffer_eq ?_)
    dsimp only
    rw [if_neg (by simp; lia)]
    exact wpAny_pure (wpAny_pure ⟨_, rfl, h⟩)
  exact PySem.in_gives (typeIs_bytes s b u) FB.slot_bytes_contains FB.entry_bytes_contains (FB.args_bytes_contains_2 _ _) g h
theorem contains_bytes {A : Around} {s : Shared} (hA : A.handled = none) {b c : Array UInt8} {t u : Tok} {prog : Program} {w : World} {E : Value → Shared → Prop} {Q : Value → Shared → Prop} (h : ∀ h' tk, (∀ a o, s.heap.get? a = some o → h'.get? a = some o) → Q (.bool (Builtin.Bytes.find? b c 0 b.size).isSome) { s with heap := h', toks := tk }) :
    wpAny (model prog w) A (compareOp .In (.bytes c t) (.bytes b u)) Q E s := by
  show wpAny _ _ (do return .bool (← contains (.bytes b u) (.bytes c t))) Q E s
  refine wpAny_bind (PySem.wpAny_contains_slot (typeIs_bytes s b u) FB.slot_bytes_contains (wpAny_call_entry FB.slot_bytes_contains (typeIs_bytes s b u) FB.entry_bytes_contains ?_ (FB.args_bytes_contains_2 _ _)))
  show wpAny _ _ (Builtin.Bytes.containsIn "bytes.__contains__" (.bytes b u) (.bytes c t) >>= fun r => ret (.bool r)) _ E s
  refine wpAny_bind ?_
  unfold Builtin.Bytes.containsIn
  refine wpAny_bind (wpAny_attempt ?_)
  unfold asIndex
  refine wpAny_bind (wpAny_of_eq (a := Option.none) rfl ?_)
  have h1 : typeLookup (.type "bytes") "__index__" = pure none := by rw [typeLookup_type, builtinLookup_eq_fast]; kernel_rfl
  unfold callSpecial?
  refine wpAny_bind (wpAny_bind (wpAny_specialOf (typeIs_bytes s c t) h1 (wpAny_pure ?_)))
  dsimp only
  unfold typeNameOfCut shownTypeOf
  refine wpAny_bind (wpAny_bind (wpAny_bind (wpAny_typeOf (typeIs_bytes _ c t) ?_)))
  refine wpAny_of_eq (a := Value.type "bytes") (by with_unfolding_all rfl) ?_
  refine wpAny_of_eq (a := "bytes") (by rw [show typeNameCut 200 (.type "bytes") = typeName (.type "bytes") from rfl, typeName_bytes]) ?_
  refine wpAny_raiseErrorMade plainExc_TypeError hA (fun h' tk e N => ?_)
  refine wpAny_bind (wpAny_of_eq KBy.buffer_eq ?_)
  dsimp only
  refine wpAny_bind (wpAny_of_eq KBy.buffer_eq ?_)
  dsimp only
  refine wpAny_bind (wpAny_rule (wpAny_pure ?_))
  exact wpAny_pure ⟨_, rfl, wpAny_truthy_bool (wpAny_pure (h h' tk N.keeps))⟩
end

section
theorem slot_bytes_find : Slot "bytes" "find" "bytes.find" :=
  .of (owner := "bytes") (n := "find") (by rw [typeLookup_type, builtinLookup_eq_fast]; kernel_rfl) (by decide +kernel) (by decide +kernel) (by decide +kernel)
    (by first | exact .inl (by decide +kernel) | exact .inr (by decide +kernel)) (by rw [isSubtype_type]; kernel_rfl)
theorem type_bytes_find : typeOf (.builtin "bytes.find") = pure (.type "method_descriptor") := by show builtinType _ = _; rw [builtinType_eq_fast]; kernel_rfl
theorem entry_bytes_find : entryFor table "bytes.find" = some Builtin.«bytes.find» := entryFor_of_tree (by kernel_rfl)
theorem args_bytes_find_3 (a b c : Value) : argsOk "bytes.find" ⟨[a, b, c], []⟩ := by
  unfold argsOk; rw [signature?_of (id := "bytes.find") (n := ['d', 'n', 'i', 'f']) (o := ['s', 'e', 't', 'y', 'b']) (by kernel_rfl) FB.owner_bytes]; kernel_rfl
theorem slot_bytes_join : Slot "bytes" "join" "bytes.join" :=
  .of (owner := "bytes") (n := "join") (by rw [typeLookup_type, builtinLookup_eq_fast]; kernel_rfl) (by decide +kernel) (by decide +kernel) (by decide +kernel)
    (by first | exact .inl (by decide +kernel) | exact .inr (by decide +kernel)) (by rw [isSubtype_type]; kernel_rfl)
theorem type_bytes_join : typeOf (.builtin "bytes.join") = pure (.type "method_descriptor") := by show builtinType _ = _; rw [builtinType_eq_fast]; kernel_rfl
theorem entry_bytes_join : entryFor table "bytes.join" = some Builtin.«bytes.join» := entryFor_of_tree (by kernel_rfl)
theorem args_bytes_join_2 (a b : Value) : argsOk "bytes.join" ⟨[a, b], []⟩ := by
  unfold argsOk; rw [signature?_of (id := "bytes.join") (n := ['n', 'i', 'o', 'j']) (o := ['s', 'e', 't', 'y', 'b']) (by kernel_rfl) FB.owner_bytes]; kernel_rfl

noncomputable def findV (b sub : Array UInt8) (at' : Int) : Int :=
  match if (b.size : Int) - at' < (sub.size : Int) then none else Builtin.Bytes.find? b sub at'.toNat b.size with
  | some i => (i : Int)
  | none => -1

section
variable {prog : Program} {w : World} {A : Around} {E : Value → Shared → Prop} {s : Shared} {Q : Value → Shared → Prop}

theorem find_ok {b sub : Array UInt8} {t u k : Tok} {i : Int} (h0 : 0 ≤ i) (h : ∀ t' tk, Q (.int (findV b sub i) t') { s with toks := tk }) :
    wpAny (model prog w) A (call (.builtin "bytes.find") [.bytes b t, .bytes sub u, .int i k]) Q E s := by
  refine wpAny_call_entry slot_bytes_find (typeIs_bytes s b t) entry_bytes_find ?_ (args_bytes_find_3 _ _ _)
  show wpAny _ _ (Builtin.Bytes.searchArgs .bytes "find" ⟨[.bytes b t, .bytes sub u, .int i k], []⟩ >>= fun r => _) _ E s
  have key : wpAny (model prog w) A.in1 (Builtin.Bytes.searchArgs .bytes "find" ⟨[.bytes b t, .bytes sub u, .int i k], []⟩)
      (fun r s' => s' = s ∧ r = (b, sub, if (b.size : Int) - i < (sub.size : Int) then none else some (i.toNat, b.size))) E s := by
    unfold Builtin.Bytes.searchArgs
    refine wpAny_bind (wpAny_of_eq (a := (Value.bytes b t, [Value.bytes sub u, Value.int i k])) rfl ?_)
    dsimp only
    unfold Builtin.Bytes.bound?
    refine wpAny_bind ?_
    show wpAny _ _ (specialOf (.int i k) "__index__" >>= fun _ => _) _ _ s
    refine wpAny_bind (wpAny_specialOf (T := "int") (typeIs_int _ _ _) F.slot_int_index.lookup ?_)
    refine wpAny_bind (wpAny_of_eq (a := i) rfl (wpAny_pure ?_))
    refine wpAny_bind (wpAny_of_eq (a := (Option.none : Option Int)) rfl ?_)
    refine wpAny_bind (wpAny_of_eq KBy.buffer_eq ?_)
    dsimp only
    refine wpAny_bind (wpAny_pure ?_)
    refine wpAny_bind (wpAny_of_eq (a := b) rfl ?_)
    refine wpAny_pure ⟨rfl, ?_⟩
    have e1 : Builtin.Bytes.window b.size (some i) none = (i, (b.size : Int)) := by
      unfold Builtin.Bytes.window
      dsimp only [Option.getD_some, Option.getD_none]
      rw [if_neg (by lia), if_neg (by lia)]
      simp
    simp only [e1, Int.toNat_natCast]
  refine wpAny_bind (wpAny_mono key (fun r s' hr => ?_) fun _ _ e => e)
  obtain ⟨rfl, rfl⟩ := hr
  dsimp only
  have hh := h
  unfold findV at hh
  by_cases hc : (b.size : Int) - i < (sub.size : Int)
  · rw [if_pos hc] at hh ⊢
    exact wpAny_bind (wpAny_rule (wpAny_ret_mkInt (hh _ _)))
  · rw [if_neg hc] at hh ⊢
    show wpAny _ _ (match Builtin.Bytes.find? b sub i.toNat b.size with | some j => _ | none => _) _ _ _
    cases hf : Builtin.Bytes.find? b sub i.toNat b.size with
    | none =>
      rw [hf] at hh
      exact wpAny_bind (wpAny_rule (wpAny_ret_mkInt (hh _ _)))
    | some j =>
      rw [hf] at hh
      exact wpAny_ret_mkInt (hh _ _)

inductive BytesAre : List Value → List (List UInt8) → Prop where
  | nil : BytesAre [] []
  | cons (b : List UInt8) (t : Tok) {vs : List Value} {bs : List (List UInt8)} : BytesAre vs bs → BytesAre (.bytes b.toArray t :: vs) (b :: bs)
theorem BytesAre.length {vs : List Value} {bs : List (List UInt8)} (h : BytesAre vs bs) : vs.length = bs.length := by
  induction h with
  | nil => rfl
  | cons b t _ ih => simp [ih]

noncomputable def joinL (sep : List UInt8) : List (List UInt8) → List UInt8
  | [] => []
  | b :: r => b ++ (r.map (sep ++ ·)).flatten

theorem joined_tail (sep : List UInt8) : ∀ (bs : List (List UInt8)) (k : Nat) (acc : List UInt8), 0 < k →
    ((bs.map List.toArray).zipIdx k).foldl (fun out (p, i) => (if i > 0 then out ++ sep.toArray else out) ++ p) acc.toArray = (acc ++ (bs.map (sep ++ ·)).flatten).toArray
  | [], _, acc, _ => by simp
  | b :: r, k, acc, hk => by
    simp only [List.map_cons, List.zipIdx_cons, List.foldl_cons]
    rw [if_pos hk, List.append_toArray, List.append_toArray, joined_tail sep r (k + 1) _ (by lia)]
    simp
theorem joined_eq (sep : List UInt8) (bs : List (List UInt8)) : Builtin.Bytes.joined sep.toArray (bs.map List.toArray) = (joinL sep bs).toArray := by
  unfold Builtin.Bytes.joined
  cases bs with
  | nil => rfl
  | cons b r =>
    simp only [List.map_cons, List.zipIdx_cons, List.foldl_cons]
    rw [if_neg (by lia)]
    have := joined_tail sep r 1 b (by lia)
    simp only [Array.empty_append] 
    exact this

theorem joinLetGo_ok {M : Model} {keep : List Value} {R : Unit → Shared → Prop} : ∀ (l : List Value), R () s → wpAny M A (Builtin.Bytes.joinLetGo (l.map (·, none)) keep) R E s
  | [], h => wpAny_pure h
  | x :: l, h => by
    rw [List.map_cons]
    show wpAny M A (letGo _ _ >>= fun _ => Builtin.Bytes.joinLetGo _ _) R E s
    exact wpAny_bind (wpAny_letGo (joinLetGo_ok l h))
theorem BytesAre.get {vs : List Value} {bs : List (List UInt8)} (h : BytesAre vs bs) : ∀ {i : Nat}, i < vs.length → ∃ b t, vs[i]? = some (.bytes b.toArray t) ∧ bs[i]? = some b := by
  induction h with
  | nil => intro i hi; simp at hi
  | cons b t _ ih =>
    intro i hi
    cases i with
    | zero => exact ⟨b, t, rfl, rfl⟩
    | succ i => simpa using ih (i := i) (by simpa using hi)
theorem BytesAre.heap {vs : List Value} {bs : List (List UInt8)} (h : BytesAre vs bs) : vs.any (·.onHeap) = false := by
  induction h with
  | nil => rfl
  | cons b t _ ih => simpa [Value.onHeap] using ih
theorem BytesAre.take {vs : List Value} {bs : List (List UInt8)} (h : BytesAre vs bs) : ∀ i, BytesAre (vs.take i) (bs.take i) := by
  induction h with
  | nil => intro i; simpa using BytesAre.nil
  | cons b t _ ih =>
    intro i
    cases i with
    | zero => exact .nil
    | succ i => simpa using BytesAre.cons b t (ih i)

theorem take_ok {M : Model} {id : String} {b : Array UInt8} {t : Tok} {R : Option (Array UInt8 × Option Value) → Shared → Prop} (h : R (some (b, none)) s) : wpAny M A (Builtin.Bytes.takeBufferQuiet? id (.bytes b t) 0) R E s := by
  unfold Builtin.Bytes.takeBufferQuiet?
  refine wpAny_bind (wpAny_attempt ?_)
  unfold Builtin.Bytes.takeBuffer?
  refine wpAny_bind (wpAny_of_eq (KBy.special_eq KBy.look_buffer) ?_)
  dsimp only
  refine wpAny_bind (wpAny_of_eq KBy.own_buffer ?_)
  rw [if_neg (by decide)]
  refine wpAny_bind (wpAny_of_eq (KBy.special_eq KBy.look_buffer) ?_)
  refine wpAny_bind (wpAny_of_eq (a := some b) ?_ (wpAny_pure (wpAny_pure h)))
  have : (0 == Builtin.Bytes.fullReadOnly) = false := by decide
  rw [this]
  exact KBy.buffer_eq

theorem sum_foldl (f : Array UInt8 → Nat) : ∀ (l : List (Array UInt8)) (a : Nat), l.foldl (fun x y => x + f y) a = a + (l.map f).sum
  | [], a => by simp
  | x :: l, a => by rw [List.foldl_cons, sum_foldl f l]; simp; lia

theorem joinL_size (sep : List UInt8) (bs : List (List UInt8)) : (joinL sep bs).length ≤ (bs.map (·.length)).sum + sep.length * bs.length := by
  have key : ∀ r : List (List UInt8), ((r.map (sep ++ ·)).flatten).length = (r.map (·.length)).sum + sep.length * r.length := by
    intro r
    induction r with
    | nil => simp
    | cons b r ih =>
      simp only [List.map_cons, List.flatten_cons, List.length_append, List.length_cons, List.sum_cons, Nat.mul_succ, ih]
      lia
  cases bs with
  | nil => simp [joinL]
  | cons b r =>
    simp only [joinL, List.length_append, List.map_cons, List.sum_cons, List.length_cons, Nat.mul_succ, key]
    lia

theorem getDv {vs : List Value} {i : Nat} {v : Value} (h : vs[i]? = some v) : vs.toArray.getD i Value.none = v := by
  obtain ⟨hi, e⟩ := List.getElem?_eq_some_iff.mp h
  simp [Array.getD, hi, e]

theorem jm_wp {M : Model} {ia : Array Value} (h : ia.size ≠ 1) {f : (x : Value) → Sem Fin} {g : Array Value → Sem Fin} {R : Fin → Shared → Prop} (hg : wpAny M A (g ia) R E s) :
    wpAny M A (Builtin.Bytes.joinM.match_1 (fun _ => Sem Fin) ia f g) R E s := by
  rcases ia with ⟨_ | ⟨x, _ | ⟨y, r⟩⟩⟩
  · exact hg
  · exact absurd rfl h
  · exact hg

theorem join_ok {sep : List UInt8} {t : Tok} {l : Addr} {its : List Value} {bs : List (List UInt8)} (hl : s.heap.IsList l its.toArray) (hb : BytesAre its bs)
    (hz : (bs.map (·.length)).sum + sep.length * bs.length ≤ 16777216) (h : ∀ t' tk, Q (.bytes (joinL sep bs).toArray t') { s with toks := tk }) :
    wpAny (model prog w) A (call (.builtin "bytes.join") [.bytes sep.toArray t, .ref l]) Q E s := by
  refine wpAny_call_entry slot_bytes_join (typeIs_bytes s _ t) entry_bytes_join ?_ (args_bytes_join_2 _ _)
  obtain ⟨o, ho, hc, n, hd⟩ := id hl
  show wpAny _ _ (Builtin.Bytes.joinM .bytes ⟨[.bytes sep.toArray t, .ref l], []⟩) _ E s
  unfold Builtin.Bytes.joinM
  refine wpAny_bind (wpAny_of_eq (a := (Value.bytes sep.toArray t, Value.ref l)) rfl ?_)
  dsimp only
  refine wpAny_bind ?_
  show wpAny _ _ (Builtin.Bytes.joinItems (.ref l)) _ _ _
  unfold Builtin.Bytes.joinItems
  refine wpAny_bind (wpAny_typeOf hl.typeIs ?_)
  rw [if_pos (by decide)]
  refine wpAny_pure ?_
  refine wpAny_bind (wpAny_seqItems ho hd ?_)
  dsimp only
  rw [if_pos (by decide)]
  have hlen := hb.length
  have hlong : Builtin.Bytes.tooLong (Array.foldl (fun x1 x2 => x1 + x2.size) (sep.toArray.size * ((bs.map List.toArray).toArray.size - 1)) (bs.map List.toArray).toArray) = false := by
    rw [List.foldl_toArray' _ _ _ rfl, sum_foldl]
    have e1 : ((bs.map List.toArray).map Array.size).sum = (bs.map (·.length)).sum := by
      rw [List.map_map]; rfl
    rw [e1]
    unfold Builtin.Bytes.tooLong
    rw [sizeLine_eq]
    apply decide_eq_false
    have : sep.toArray.size * ((bs.map List.toArray).toArray.size - 1) ≤ sep.length * bs.length := by
      rw [List.size_toArray]
      refine Nat.mul_le_mul_left _ ?_
      rw [List.size_toArray, List.length_map]
      lia
    lia
  have hjz := joinL_size sep bs
  have hsz : its.toArray.size = its.length := List.size_toArray ..
  by_cases h1 : its.length = 1
  · cases hb with
    | nil => cases h1
    | cons b u hb' =>
      cases hb' with
      | cons => cases h1
      | nil =>
        have e : joinL sep [b] = b := by simp [joinL]
        rw [e] at h
        refine wpAny_bind (wpAny_typeOf (typeIs_bytes s _ u) ?_)
        rw [if_pos (by decide)]
        exact wpAny_bind (wpAny_rule (wpAny_pure ⟨_, rfl, h u s.toks⟩))
  · generalize hIt : its.toArray = ia at hl hd hsz ⊢
    refine jm_wp (by rw [hsz]; exact h1) ?_
    refine wpAny_bind ?_
    rw [KPc.range_list, hsz]
    refine wpAny_forIn_list _ (fun rest (p : Array (Array UInt8) × List (Value × Option Value)) s' => s' = s ∧ ∃ i, rest = List.range' i (its.length - i) ∧ i ≤ its.length ∧ p = (((bs.take i).map List.toArray).toArray, (its.take i).map (·, Option.none))) _ ?_ ?_ _ _ ⟨rfl, 0, by simp, Nat.zero_le _, rfl⟩
    · rintro i rest p s' ⟨rfl, j, e1, e2, rfl⟩
      have hj : j < its.length := by
        rcases Nat.lt_or_ge j its.length with h | h
        · exact h
        · rw [show its.length - j = 0 by lia] at e1; cases e1
      rw [show its.length - j = (its.length - j - 1) + 1 by lia, List.range'_succ] at e1
      obtain ⟨rfl, rfl⟩ := List.cons.inj e1
      obtain ⟨b, u, g1, g2⟩ := hb.get hj
      refine wpAny_bind (wpAny_seqItems ho hd ?_)
      dsimp only
      rw [← hIt, getDv g1]
      rw [if_neg (by
        have := (hb.take i).heap
        simp only [List.any_map, Function.comp_def, Bool.or_eq_true, not_or]
        exact ⟨by decide, by rw [this]; exact Bool.false_ne_true⟩)]
      refine wpAny_bind (wpAny_holding ?_)
      refine take_ok ?_
      dsimp only
      refine wpAny_bind (wpAny_seqItems ho hd ?_)
      dsimp only
      rw [if_neg (by have := hsz; simp_all)]
      refine wpAny_pure ⟨rfl, i + 1, by rw [Nat.sub_add_eq], hj, ?_⟩
      have t1 : bs.take (i + 1) = bs.take i ++ [b] := by rw [List.take_add_one, g2]; rfl
      have t2 : its.take (i + 1) = its.take i ++ [.bytes b.toArray u] := by rw [List.take_add_one, g1]; rfl
      rw [t1, t2]
      simp
    · rintro p s' ⟨rfl, j, e1, e2, rfl⟩
      have hj : j = its.length := by
        rcases Nat.lt_or_ge j its.length with h | h
        · rw [show its.length - j = (its.length - j - 1) + 1 by lia, List.range'_succ] at e1; cases e1
        · lia
      subst hj
      rw [List.take_of_length_le (by lia), List.take_of_length_le (by lia)]
      refine wpAny_bind (wpAny_of_eq (a := sep.toArray) rfl ?_)
      dsimp only
      rw [hlong, if_neg Bool.false_ne_true]
      refine wpAny_bind ?_
      show wpAny _ _ (mkBytes _) _ _ _
      rw [joined_eq]
      refine wpAny_mkBytes ?_ ?_
      · exact wpAny_bind (wpAny_holding (wpAny_point (wpAny_bind (joinLetGo_ok _ (wpAny_pure ⟨_, rfl, h _ _⟩)))))
      · rw [sizeLine_eq, List.size_toArray]; lia
end
end

section
namespace BA
theorem mro_ba : mroOf (.type "bytearray") = pure [.type "bytearray", .type "object"] := by rw [mroOf_type]; kernel_rfl
theorem lookup_new : typeLookup (.type "bytearray") "__new__" = pure (some (.builtin "bytearray.__new__")) := by rw [typeLookup_type, builtinLookup_eq_fast]; kernel_rfl
theorem slot_init : Slot "bytearray" "__init__" "bytearray.__init__" :=
  .of (owner := "bytearray") (n := "__init__") (by rw [typeLookup_type, builtinLookup_eq_fast]; kernel_rfl) (by decide +kernel) (by decide +kernel) (by decide +kernel)
    (by first | exact .inl (by decide +kernel) | exact .inr (by decide +kernel)) (by rw [isSubtype_type]; kernel_rfl)
theorem called : TypeCalled "bytearray" "bytearray.__new__" "bytearray.__init__" :=
  ⟨by decide +kernel, by decide +kernel, ⟨_, _, mro_ba⟩, madeBy_type mro_ba lookup_new (by decide +kernel), by decide +kernel, by rw [isSubtype_type]; kernel_rfl, slot_init⟩
theorem typeCall_0 : checkTypeCall "bytearray" ⟨[], []⟩ = pure () := by kernel_rfl
theorem newCall_0 : checkBuiltinCall "bytearray.__new__" ⟨[.type "bytearray"], []⟩ = pure () := by kernel_rfl
theorem entry_new : entryFor table "bytearray.__new__" = some Builtin.«list.__new__» := entryFor_alias (id' := "list.__new__") (by kernel_rfl) rfl (by decide +kernel) (by kernel_rfl)
theorem entry_init : entryFor table "bytearray.__init__" = some Builtin.«bytearray.__init__» := by first | exact entryFor_of_fast (by kernel_rfl) | exact entryFor_of_tree (by kernel_rfl)
theorem plain_new : plainId "bytearray.__new__" = true := by decide +kernel
set_option maxRecDepth 1000000 in
set_option maxHeartbeats 4000000 in
theorem owner_new : ("bytearray.__new__".splitOn ".__new__").headD "" = "bytearray" := by simp +decide [String.splitOn, String.splitOnAux]
theorem sub_self : isSubtype (.type "bytearray") (.type "bytearray") = pure true := by rw [isSubtype_type]; kernel_rfl
theorem owner : Manifest.owners.lookup (String.ofList ['y', 'a', 'r', 'r', 'a', 'e', 't', 'y', 'b'].reverse) = some Manifest.sig_bytearray := by kernel_rfl
theorem args_init_0 (a : Value) : argsOk "bytearray.__init__" ⟨[a], []⟩ := by
  unfold argsOk; rw [signature?_of (id := "bytearray.__init__") (n := ['_', '_', 't', 'i', 'n', 'i', '_', '_']) (o := ['y', 'a', 'r', 'r', 'a', 'e', 't', 'y', 'b']) (by kernel_rfl) owner]; kernel_rfl
theorem look_release : typeLookup (.type "bytearray") "__release_buffer__" = pure (some (.builtin "bytearray.__release_buffer__")) := by rw [typeLookup_type, builtinLookup_eq_fast]; kernel_rfl

section
variable {prog : Program} {w : World} {A : Around} {E : Value → Shared → Prop} {s : Shared}
noncomputable def obj (b : Array UInt8) : Obj := { cls := .type "bytearray", data := .bytearray b }

theorem code_new {Q₁ : Value → Shared → Prop} (h : Q₁ (.ref s.heap.objs.size) { s with heap := s.heap.push (obj #[]) }) :
    codeAny (model prog w) A (.call (.builtin "bytearray.__new__") ⟨[.type "bytearray"], []⟩) (wants Q₁ E) s := by
  refine codeAny_of_tree ?_
  show wpAny _ A.in1 (do checkBuiltinCall "bytearray.__new__" ⟨[.type "bytearray"], []⟩; again (.builtin "bytearray.__new__" ⟨[.type "bytearray"], []⟩)) _ _ s
  refine wpAny_bind (wpAny_of_eq newCall_0 (wpAny_pure ⟨plainId_quiet plain_new _, codeAny_builtin_stack entry_new rfl fun p st => ?_⟩))
  rw [Around.under_plainId plain_new _]
  have hsub := sub_self
  have hown := owner_new
  obtain ⟨hp, g, d, tk, os⟩ := s
  simp only [hown]
  wp_walk
  exact h
end
end BA
end

section
/-- built-ins whose activation below holds a bytearray's buffer -/
noncomputable def badIds : List String := ["bytearray.__contains__", "bytearray.__mod__", "bytearray.__rmod__", "_struct.pack_into.held", "bytearray.find.held"] ++ Builtin.Bytes.decodersThatHold
noncomputable def okc : Code → Bool
  | .builtin id _ => !badIds.contains id
  | _ => true
/-- a stack on which no such built-in stands -/
noncomputable def Clean (Γ : PySem.Ctx) : Prop := okc Γ.code = true ∧ ∀ x ∈ Γ.below, okc x.1 = true

noncomputable def noE : Value → Shared → Prop := fun _ _ => False

/-- a tree raises nothing and ends in Q, on every clean stack within A -/
noncomputable def W {α : Type} (M : Model) (A : Around) (t : Sem α) (Q : α → Shared → Prop) (s : Shared) : Prop :=
  ∀ Γ p, Γ.In A → Clean Γ → Sem.wp M Γ t (fun a _ s' => Q a s') (fun _ _ _ => False) p s
noncomputable def WC (M : Model) (A : Around) (c : Code) (R : Flow → Shared → Prop) (s : Shared) : Prop :=
  ∀ Γ p, Γ.code = c → Γ.Below A → Clean Γ → wpCode M Γ (fun r s' => match r with | .ok f => R f s' | .error _ => False) p s

section
variable {α β : Type} {M : Model} {A : Around} {s : Shared}

theorem W.any {t : Sem α} {Q : α → Shared → Prop} (h : wpAny M A t Q noE s) : W M A t Q s := fun Γ p hΓ _ => h Γ p hΓ
theorem W.mono {t : Sem α} {Q Q' : α → Shared → Prop} (h : W M A t Q s) (hQ : ∀ a s, Q a s → Q' a s) : W M A t Q' s :=
  fun Γ p hΓ hc => Sem.wp_mono M Γ t (fun a _ s => hQ a s) (fun _ _ _ h => h) p s (h Γ p hΓ hc)
theorem W.bind {m : Sem α} {f : α → Sem β} {Q : β → Shared → Prop} (h : W M A m (fun a s' => W M A (f a) Q s') s) : W M A (m >>= f) Q s := fun Γ p hΓ hc => by
  rw [Sem.wp_bind']
  exact Sem.wp_mono M Γ m (fun a p' s' h' => h' Γ p' hΓ hc) (fun _ _ _ h' => h') p s (h Γ p hΓ hc)
theorem W.pure {a : α} {Q : α → Shared → Prop} (h : Q a s) : W M A (Pure.pure a) Q s := fun _ _ _ _ => h
theorem W.eq {t : Sem α} {a : α} {Q : α → Shared → Prop} (e : t = Pure.pure a) (h : Q a s) : W M A t Q s := by subst e; exact W.pure h
theorem W.holding {vs : List Value} {m : Sem α} {Q : α → Shared → Prop} (h : W M A m Q s) : W M A (PySem.holding vs m) Q s := fun Γ p hΓ hc => by rw [Sem.wp_holding]; exact h Γ p hΓ hc
theorem W.standAt {pos : Pos} {Q : Unit → Shared → Prop} (h : Q () s) : W M A (PySem.standAt pos) Q s := fun _ _ _ _ => h
theorem W.rule {tag : String} {Q : Unit → Shared → Prop} (h : Q () s) : W M A (PySem.rule tag) Q s := fun _ _ _ _ => h
theorem W.point {Q : Unit → Shared → Prop} (h : Q () s) : W M A PySem.point Q s := fun _ _ _ _ => h
theorem W.operate {vs : List Value} {m : Sem Value} {Q : Value → Shared → Prop} (h : W M A m Q s) : W M A (PySem.operate vs m) Q s := fun Γ p hΓ hc => by rw [Sem.wp_operate]; exact h Γ p hΓ hc
theorem W.release {vs keep : List Value} {Q : Unit → Shared → Prop} (h : Q () s) : W M A (PySem.release vs keep) Q s := fun Γ p hΓ hc => wpAny_release' h Γ p hΓ
theorem W.onRaise {m : Sem α} {k : Value → Sem Unit} {Q : α → Shared → Prop} (h : W M A m Q s) : W M A (m.onRaise k) Q s := fun Γ p hΓ hc => by
  rw [Sem.wp_onRaise]
  exact Sem.wp_mono M Γ m (fun _ _ _ h' => h') (fun _ _ _ h' => h'.elim) p s (h Γ p hΓ hc)
theorem W.attempt {m : Sem α} {Q : Except Value α → Shared → Prop} (h : W M A m (fun a => Q (.ok a)) s) : W M A m.attempt Q s := fun Γ p hΓ hc => by
  rw [Sem.wp_attempt]
  exact Sem.wp_mono M Γ m (fun _ _ _ h' => h') (fun _ _ _ h' => h'.elim) p s (h Γ p hΓ hc)
theorem W.ite {c : Prop} [Decidable c] {a b : Sem α} {Q : α → Shared → Prop} (h : if c then W M A a Q s else W M A b Q s) : W M A (if c then a else b) Q s := by split <;> simp_all

theorem clean_enter {Γ : PySem.Ctx} (hc : Clean Γ) {c : Code} {h : Option Value} {p : Pos} (ho : okc c = true) : Clean (Γ.enter c h p) := by
  refine ⟨ho, fun x hx => ?_⟩
  rcases List.mem_cons.mp hx with rfl | hx
  · exact hc.1
  · exact hc.2 x hx

theorem W.run {c : Code} {Q : Flow → Shared → Prop} (hc : WC M A c Q s) (ho : okc c = true) : W M A (PySem.run c none) Q s := fun Γ p hΓ hcl => by
  rw [Sem.wp_run]
  refine wpCode_mono (fun r s' hr => ?_) (hc _ p rfl (hΓ.enter c none p (by intro x; cases x)) (clean_enter hcl ho))
  cases r with
  | ok f => exact hr
  | error e => exact hr.elim
theorem W.runOwn {c : Code} {env : Env} {Q : Flow → Shared → Prop} (hc : WC M A c Q s) (ho : okc c = true) : W M A (PySem.runOwn c env none) Q s := by
  unfold PySem.runOwn
  exact W.onRaise (W.run hc ho)
theorem W.runValue {c : Code} {Q : Value → Shared → Prop} (hc : WC M A c (fun f s' => match f with | .ret v => Q v s' | _ => False) s) (ho : okc c = true) : W M A (PySem.runValue c) Q s := fun Γ p hΓ hcl => by
  rw [Sem.wp_runValue]
  refine wpCode_mono (fun r s' hr => ?_) (hc _ p rfl (hΓ.enter c none p (by intro x; cases x)) (clean_enter hcl ho))
  cases r with
  | ok f => cases f <;> first | exact hr | exact False.elim hr
  | error e => exact hr.elim
theorem W.call {f : Value} {pos : List Value} {kw : List (Str × Value)} {Q : Value → Shared → Prop} (hc : WC M A (.call f ⟨pos, kw⟩) (fun f s' => match f with | .ret v => Q v s' | _ => False) s) : W M A (PySem.call f pos kw) Q s :=
  W.runValue hc rfl

theorem WC.tree {c : Code} {R : Flow → Shared → Prop}
    (h : W M (A.under c) (M.den c) (fun fin s' => match fin with | .done f => R f s' | .again c' => c'.quiet = true ∧ okc c' = true ∧ WC M A c' R s') s) : WC M A c R s := fun Γ p hc hΓ hcl => by
  rw [wpCode_iff_wp, hc]
  refine Sem.wp_mono M Γ _ (fun fin p' s' h' => ?_) (fun _ _ _ h' => h'.elim) p s (h Γ p (hc ▸ hΓ.in) hcl)
  cases fin with
  | done f => exact h'
  | again c' => exact ⟨h'.1, h'.2.2 (Γ.goto c') p' rfl (hΓ.goto c') ⟨h'.2.1, hcl.2⟩⟩
theorem WC.mono {c : Code} {R R' : Flow → Shared → Prop} (h : WC M A c R s) (hR : ∀ f s, R f s → R' f s) : WC M A c R' s :=
  fun Γ p hc hΓ hcl => wpCode_mono (fun r s' hr => by cases r with | ok f => exact hR f s' hr | error e => exact hr) (h Γ p hc hΓ hcl)

/-- a loop: the same code again and again -/
theorem WC.loop {c : Code} {R : Flow → Shared → Prop} (hq : c.quiet = true) (ho : okc c = true) (I : Nat → Shared → Prop)
    (turn : ∀ n s, I n s → W M (A.under c) (M.den c)
      (fun fin s' => match fin with | .done f => R f s' | .again c' => (c' = c ∧ ∃ m, m < n ∧ I m s') ∨ (c'.quiet = true ∧ okc c' = true ∧ WC M A c' R s')) s)
    (n : Nat) (h : I n s) : WC M A c R s := by
  induction n using Nat.strongRecOn generalizing s with
  | ind n ih =>
    refine WC.tree (W.mono (turn n s h) fun fin s' hf => ?_)
    cases fin with
    | done f => exact hf
    | again c' =>
      rcases hf with ⟨rfl, m, hm, hI⟩ | hf
      · exact ⟨hq, ho, ih m hm hI⟩
      · exact hf
end

/-- on a clean stack nothing holds a bytearray's buffer -/
theorem exported_ok {M : Model} {A : Around} {s : Shared} {v : Value} {Q : Bool → Shared → Prop} (h : Q false s) : W M A (Builtin.Bytes.exported v) Q s := fun Γ p _ hcl => by
  have key : ∀ x : Code × Pos, okc x.1 = true → (match x with
    | (.builtin "bytearray.__contains__" ⟨w :: _, _⟩, _) | (.builtin "bytearray.__mod__" ⟨w :: _, _⟩, _)
    | (.builtin "bytearray.__rmod__" ⟨_ :: w :: _, _⟩, _) | (.builtin "_struct.pack_into.held" ⟨w :: _, _⟩, _) => Builtin.Bytes.sameRef w v
    | (.builtin "bytearray.find.held" ⟨_ :: _ :: held, _⟩, _) => held.any (Builtin.Bytes.sameRef v)
    | (.builtin id ⟨w :: _, _⟩, _) => Builtin.Bytes.sameRef w v && Builtin.Bytes.decodersThatHold.contains id
    | _ => false) = false := by
    rintro ⟨c, p⟩ hx
    cases c with
    | builtin id a =>
      have hx : (!badIds.contains id) = true := hx
      have nb : ∀ i, badIds.contains i = true → ¬ id = i := by
        rintro i hi rfl
        rw [hi] at hx; cases hx
      have hd : Builtin.Bytes.decodersThatHold.contains id = false := by
        cases e : Builtin.Bytes.decodersThatHold.contains id with
        | false => rfl
        | true => exact absurd rfl (nb id (List.contains_iff_mem.mpr (List.mem_append_right _ (List.contains_iff_mem.mp e))))
      obtain ⟨pos, kw⟩ := a
      delta exported_ok.match_1
      dsimp only
      refine (dif_neg (nb "bytearray.__contains__" (by decide +kernel))).trans ?_
      refine (dif_neg (nb "bytearray.__mod__" (by decide +kernel))).trans ?_
      refine (dif_neg (nb "bytearray.__rmod__" (by decide +kernel))).trans ?_
      refine (dif_neg (nb "_struct.pack_into.held" (by decide +kernel))).trans ?_
      refine (dif_neg (nb "bytearray.find.held" (by decide +kernel))).trans ?_
      cases pos with
      | nil => rfl
      | cons w r =>
        show (_ && Builtin.Bytes.decodersThatHold.contains id) = false
        rw [hd, Bool.and_false]
    | _ => rfl
  show Q (((Γ.code, p) :: Γ.below).any _) s
  rw [List.any_eq_false.mpr (fun x hx => ?_)]
  · exact h
  · rcases List.mem_cons.mp hx with rfl | hx
    · exact Bool.eq_false_iff.mp (key _ hcl.1)
    · exact Bool.eq_false_iff.mp (key _ (hcl.2 x hx))
end

section
namespace C
section
variable {M : Model} {A : Around} {s : Shared} {env : Env}

theorem BinE {l r : Expr} {op : Operator} {pos : Pos} {Q : Value → Shared → Prop}
    (h : W M A (eval l env) (fun a s₁ => W M A (eval r env) (fun b s₂ => W M A (binaryOp op a b) Q s₂) s₁) s) : W M A (eval (.BinOp l op r pos) env) Q s := by
  show W M A (do let a ← eval l env; let b ← holding [a] (eval r env); standAt pos; operate [a, b] (binaryOp op a b)) Q s
  exact W.bind (W.mono h fun a s₁ h₁ => W.bind (W.holding (W.mono h₁ fun b s₂ h₂ => W.bind (W.standAt (W.operate h₂)))))
theorem UnOp {x : Expr} {op : PySem.UnaryOp} {pos : Pos} {Q : Value → Shared → Prop}
    (h : W M A (eval x env) (fun a s₁ => W M A (unaryOp op a) Q s₁) s) : W M A (eval (.UnaryOp op x pos) env) Q s := by
  show W M A (do let v ← eval x env; standAt pos; holding [v] (unaryOp op v)) Q s
  exact W.bind (W.mono h fun a s₁ h₁ => W.bind (W.standAt (W.holding h₁)))
theorem IfE {t b o : Expr} {pos : Pos} {Q : Value → Shared → Prop}
    (h : W M A (isTrue t env (eval t env)) (fun c s₁ => if c then W M A (eval b env) Q s₁ else W M A (eval o env) Q s₁) s) : W M A (eval (.IfExp t b o pos) env) Q s := by
  show W M A (do if ← isTrue t env (eval t env) then eval b env else eval o env) Q s
  refine W.bind (W.mono h fun c s₁ h₁ => ?_)
  cases c <;> exact h₁
theorem AndE {e₁ e₂ : Expr} {rest : List Expr} {pos : Pos} {Q : Value → Shared → Prop}
    (h : W M A (eval e₁ env) (fun v s₁ => W M A (truthy v) (fun c s₂ => if c then W M A (eval (.BoolOp .And (e₂ :: rest) pos) env) Q s₂ else Q v s₂) s₁) s) :
    W M A (eval (.BoolOp .And (e₁ :: e₂ :: rest) pos) env) Q s := by
  show W M A (do
    let v ← eval e₁ env
    standAt pos
    let c ← holding [v] (truthy v)
    match PySem.BoolOp.And, c with
    | .And, false | .Or, true => pure v
    | _, _ => boolOp pos .And (eval e₂ env :: evalEach rest env)) Q s
  refine W.bind (W.mono h fun v s₁ h₁ => W.bind (W.standAt (W.bind (W.holding (W.mono h₁ fun c s₂ h₂ => ?_)))))
  cases c with
  | false => exact W.pure h₂
  | true => exact h₂
theorem OrE {e₁ e₂ : Expr} {rest : List Expr} {pos : Pos} {Q : Value → Shared → Prop}
    (h : W M A (eval e₁ env) (fun v s₁ => W M A (truthy v) (fun c s₂ => if c then Q v s₂ else W M A (eval (.BoolOp .Or (e₂ :: rest) pos) env) Q s₂) s₁) s) :
    W M A (eval (.BoolOp .Or (e₁ :: e₂ :: rest) pos) env) Q s := by
  show W M A (do
    let v ← eval e₁ env
    standAt pos
    let c ← holding [v] (truthy v)
    match PySem.BoolOp.Or, c with
    | .And, false | .Or, true => pure v
    | _, _ => boolOp pos .Or (eval e₂ env :: evalEach rest env)) Q s
  refine W.bind (W.mono h fun v s₁ h₁ => W.bind (W.standAt (W.bind (W.holding (W.mono h₁ fun c s₂ h₂ => ?_)))))
  cases c with
  | false => exact h₂
  | true => exact W.pure h₂

theorem tNot {x : Expr} {pos : Pos} {whole : Sem Value} {Q : Bool → Shared → Prop} (h : W M A (isTrue x env (eval x env)) (fun c s' => Q (!c) s') s) :
    W M A (isTrue (.UnaryOp .Not x pos) env whole) Q s := by
  show W M A (do return !(← isTrue x env (eval x env))) Q s
  exact W.bind (W.mono h fun c s' h' => W.pure h')
theorem tAnd0 {pos : Pos} {whole : Sem Value} {Q : Bool → Shared → Prop} (h : Q true s) : W M A (isTrue (.BoolOp .And [] pos) env whole) Q s := W.pure (a := true) h
theorem tOr0 {pos : Pos} {whole : Sem Value} {Q : Bool → Shared → Prop} (h : Q false s) : W M A (isTrue (.BoolOp .Or [] pos) env whole) Q s := W.pure (a := false) h
theorem tAnd {x : Expr} {rest : List Expr} {pos : Pos} {whole : Sem Value} {Q : Bool → Shared → Prop}
    (h : W M A (isTrue x env (eval x env)) (fun c s' => if c then W M A (isTrue (.BoolOp .And rest pos) env whole) Q s' else Q false s') s) :
    W M A (isTrue (.BoolOp .And (x :: rest) pos) env whole) Q s := by
  show W M A (do
    match PySem.BoolOp.And, ← isTrue x env (eval x env) with
    | .And, false => pure false
    | .Or, true => pure true
    | _, _ => allTrue .And rest env) Q s
  refine W.bind (W.mono h fun c s' h' => ?_)
  cases c with
  | false => exact W.pure h'
  | true => exact h'
theorem tOr {x : Expr} {rest : List Expr} {pos : Pos} {whole : Sem Value} {Q : Bool → Shared → Prop}
    (h : W M A (isTrue x env (eval x env)) (fun c s' => if c then Q true s' else W M A (isTrue (.BoolOp .Or rest pos) env whole) Q s') s) :
    W M A (isTrue (.BoolOp .Or (x :: rest) pos) env whole) Q s := by
  show W M A (do
    match PySem.BoolOp.Or, ← isTrue x env (eval x env) with
    | .And, false => pure false
    | .Or, true => pure true
    | _, _ => allTrue .Or rest env) Q s
  refine W.bind (W.mono h fun c s' h' => ?_)
  cases c with
  | false => exact h'
  | true => exact W.pure h'
theorem tIf {t b o : Expr} {pos : Pos} {whole : Sem Value} {Q : Bool → Shared → Prop}
    (h : W M A (isTrue t env (eval t env)) (fun c s₂ => if c then W M A (isTrue b env (eval b env)) Q s₂ else W M A (isTrue o env (eval o env)) Q s₂) s) :
    W M A (isTrue (.IfExp t b o pos) env whole) Q s := by
  show W M A (do if ← isTrue t env (eval t env) then isTrue b env (eval b env) else isTrue o env (eval o env)) Q s
  refine W.bind (W.mono h fun c s₂ h₂ => ?_)
  cases c <;> exact h₂
theorem tVal {e : Expr} {whole : Sem Value} {Q : Bool → Shared → Prop} (h : W M A whole (fun v s₁ => W M A (truthy v) Q s₁) s)
    (he : isTrue e env whole = (do let v ← whole; standAt e.pos; holding [v] (truthy v))) : W M A (isTrue e env whole) Q s := by
  rw [he]
  exact W.bind (W.mono h fun v s₁ h₁ => W.bind (W.standAt (W.holding h₁)))

theorem Cmp1 {l r : Expr} {op : CmpOp} {pos : Pos} {Q : Value → Shared → Prop} (hm : behindInMarks op r = false)
    (h : W M A (eval l env) (fun a s₁ => W M A (eval r env) (fun b s₂ => W M A (compareOp op a b) Q s₂) s₁) s) : W M A (eval (.Compare l [op] [r] pos) env) Q s := by
  rw [eval_Compare1, markedBehindIn_of_false hm]
  exact W.bind (W.mono h fun a s₁ h₁ => W.bind (W.holding (W.mono h₁ fun b s₂ h₂ => W.bind (W.standAt (W.operate h₂)))))
theorem tCompare1 {l r : Expr} {op : CmpOp} {pos : Pos} {whole : Sem Value} {Q : Bool → Shared → Prop} (hm : behindInMarks op r = false)
    (h : W M A (eval l env) (fun a s₁ => W M A (eval r env) (fun b s₂ => W M A (compareOp op a b) (fun c s₃ => W M A (truthy c) Q s₃) s₂) s₁) s) : W M A (isTrue (.Compare l [op] [r] pos) env whole) Q s := by
  rw [isTrue_Compare1, markedBehindIn_of_false hm]
  exact W.bind (W.mono h fun a s₁ h₁ => W.bind (W.holding (W.mono h₁ fun b s₂ h₂ => W.bind (W.standAt (W.bind (W.operate (W.mono h₂ fun c s₃ h₃ => W.holding h₃)))))))
theorem tCompare2 {l r r' : Expr} {o₁ o₂ : CmpOp} {pos : Pos} {whole : Sem Value} {Q : Bool → Shared → Prop} (hm : lastMarks [o₁, o₂] [r, r'] = false)
    (h : W M A (eval l env) (fun a s₁ => W M A (eval r env) (fun b s₂ => W M A (compareOp o₁ a b) (fun c s₃ => W M A (truthy c) (fun t s₄ =>
      if t then W M A (eval r' env) (fun d s₅ => W M A (compareOp o₂ b d) (fun c' s₆ => W M A (truthy c') Q s₆) s₅) s₄ else Q false s₄) s₃) s₂) s₁) s) :
    W M A (isTrue (.Compare l [o₁, o₂] [r, r'] pos) env whole) Q s := by
  show W M A (do testChain pos (← eval l env) [o₁, o₂] (markedEach [o₁, o₂] [r, r'] (evalEach [r, r'] env))) Q s
  rw [markedEach_of_false _ _ _ hm]
  refine W.bind (W.mono h fun a s₁ h₁ => ?_)
  show W M A (do
    let rv ← holding [a] (eval r env)
    standAt pos
    let c ← holding [a, rv] (compareOp o₁ a rv)
    release [a, rv] [c]
    if ← holding [c, rv] (truthy c) then testChain pos rv [o₂] [eval r' env] else pure false) Q s₁
  refine W.bind (W.holding (W.mono h₁ fun b s₂ h₂ => W.bind (W.standAt (W.bind (W.holding (W.mono h₂ fun c s₃ h₃ => W.bind (W.release (W.bind (W.holding (W.mono h₃ fun t s₄ h₄ => ?_)))))))))) 
  cases t with
  | false => exact W.pure h₄
  | true =>
    show W M A (do
      let rv ← holding [b] (eval r' env)
      standAt pos
      let c ← operate [b, rv] (compareOp o₂ b rv)
      holding [c] (truthy c)) Q s₄
    exact W.bind (W.holding (W.mono h₄ fun d s₅ h₅ => W.bind (W.standAt (W.bind (W.operate (W.mono h₅ fun c s₆ h₆ => W.holding h₆))))))

theorem spliced_nil {Q : List Value → Shared → Prop} (h : Q [] s) : W M A (spliced []) Q s := W.pure h
theorem spliced_cons {x : Sem Value} {rest : List (Bool × Sem Value)} {Q : List Value → Shared → Prop}
    (h : W M A x (fun v s₁ => W M A (spliced rest) (fun vs s₂ => Q (v :: vs) s₂) s₁) s) : W M A (spliced ((false, x) :: rest)) Q s := by
  show W M A (do
    let v ← x
    let here ← (pure [v] : Sem (List Value))
    return here ++ (← holding here (spliced rest))) Q s
  exact W.bind (W.mono h fun v s₁ h₁ => W.bind (W.pure (W.bind (W.holding (W.mono h₁ fun vs s₂ h₂ => W.pure h₂)))))
theorem TupE {elts : List Expr} {k : Nat} {pos : Pos} {Q : Value → Shared → Prop}
    (h : W M A (spliced (backTo pos (starEach elts env))) (fun vs s₁ => W M A (newTuple vs) Q s₁) s) : W M A (eval (.Tuple elts k pos) env) Q s := by
  show W M A (do standAt pos; newTuple (← spliced (backTo pos (starEach elts env)))) Q s
  exact W.bind (W.standAt (W.bind h))
theorem ListE {elts : List Expr} {pos : Pos} {Q : Value → Shared → Prop}
    (h : W M A (spliced (backTo pos (starEach elts env))) (fun vs s₁ => W M A (newList vs) Q s₁) s) : W M A (eval (.List elts pos) env) Q s := by
  show W M A (do standAt pos; newList (← spliced (backTo pos (starEach elts env)))) Q s
  exact W.bind (W.standAt (W.bind h))

theorem execs_nil {Q : Flow → Shared → Prop} (h : Q .next s) : W M A (execs [] env) Q s := W.pure h
theorem execs_cons {c : Stmt} {rest : List Stmt} {Q : Flow → Shared → Prop}
    (h : W M A (exec c env) (fun f s' => match f with | .next => W M A (execs rest env) Q s' | f => Q f s') s) : W M A (execs (c :: rest) env) Q s := by
  rw [PySem.execs_cons]
  refine W.bind (W.mono h fun f s' h' => ?_)
  cases f <;> first | exact h' | exact W.pure h'
theorem IfS {t : Expr} {b o : List Stmt} {pos : Pos} {Q : Flow → Shared → Prop}
    (h : W M A (isTrue t env (eval t env)) (fun c s₂ => if c then W M A (execs b env) Q s₂ else W M A (execs o env) Q s₂) s) : W M A (exec (.If t b o pos) env) Q s := by
  rw [exec_If]
  refine W.bind (W.standAt (W.bind (W.mono h fun c s₂ h₂ => ?_)))
  cases c <;> exact h₂
theorem RetS {e : Expr} {pos : Pos} {Q : Flow → Shared → Prop} (h : W M A (eval e env) (fun v => Q (.ret v)) s) : W M A (exec (.Return (some e) pos) env) Q s := by
  rw [exec_Return_some]
  exact W.bind (W.standAt (W.bind (W.mono h fun v s' h' => W.pure h')))
theorem AssignS {x : Str} {p pos : Pos} {e : Expr} {Q : Flow → Shared → Prop} (hs : swapsWith e (some (.Name x p)) pos.line env = Pure.pure false)
    (h : W M A (eval e env) (fun v s₁ => W M A (storeName env x v) (fun _ => Q .next) s₁) s) : W M A (exec (.Assign [.Name x p] e pos) env) Q s := by
  rw [exec_Assign_Name env x p e pos hs]
  exact W.bind (W.standAt (W.bind (W.mono h fun v s₁ h₁ => W.bind (W.standAt (W.bind (show W M A (bindName env x v) _ s₁ from W.bind (W.holding (W.point (W.bind (W.mono h₁ fun _ s₂ h₂ => W.point (W.pure h₂)))))))))))

theorem block {stmts : List Stmt} {prog : Program} {w : World} {R : Flow → Shared → Prop} (h : W (model prog w) A (execs stmts env) R s) : WC (model prog w) A (.block stmts env) R s := by
  refine WC.tree ?_
  show W _ A (do return Fin.done (← (execs stmts env).onRaise (fun x => do noteFrame x env; theTreesLotGoes x))) _ s
  exact W.bind (W.onRaise (W.mono h fun f s' h' => W.pure h'))

theorem WhileS {t : Expr} {b : List Stmt} {pos : Pos} {prog : Program} {w : World} {Q : Flow → Shared → Prop} (I : Nat → Shared → Prop)
    (turn : ∀ n s, I n s → W (model prog w) A (isTrue t env (eval t env)) (fun c s₂ =>
      if c then W (model prog w) A (execs b env) (fun f s₃ => match f with
        | .next | .cont => ∃ m, m < n ∧ I m s₃
        | .brk => Q .next s₃
        | .ret v => Q (.ret v) s₃) s₂
      else Q .next s₂) s) (n : Nat) (h : I n s) : W (model prog w) A (exec (.While t b [] pos) env) Q s := by
  rw [exec_While]
  refine W.bind (W.standAt (W.runOwn (WC.loop rfl rfl I (fun n s hI => ?_) n h) rfl))
  show W _ A ((whileTurn t b [] env).onRaise (fun x => do noteFrame x env; theTreesLotGoes x)) _ s
  refine W.onRaise ?_
  dsimp only [whileTurn]
  refine W.bind (W.mono (turn n s hI) fun c s₂ h₂ => ?_)
  cases c with
  | false => exact W.bind (W.pure (W.pure h₂))
  | true =>
    refine W.bind (W.mono h₂ fun f s₃ h₃ => ?_)
    cases f with
    | next => exact W.pure (.inl ⟨rfl, h₃⟩)
    | cont => exact W.pure (.inl ⟨rfl, h₃⟩)
    | brk => exact W.pure h₃
    | ret v => exact W.pure h₃
end
end C
end

section
/-- the head asks a proof on every stack; this tree looks at the stack first, and leaves with True where it is not clean -/
noncomputable def cleanStack (l : List (Code × Pos)) : Bool := l.all fun x => okc x.1
noncomputable def guarded {α : Type} (t : Sem α) (other : Sem α) : Sem α := Sem.stack fun st => if cleanStack st = true then t else other

theorem wp_guarded {α : Type} {M : Model} {Γ : PySem.Ctx} {t o : Sem α} {Q : α → Pos → Shared → Prop} {E : Value → Pos → Shared → Prop} {p : Pos} {s : Shared} :
    Sem.wp M Γ (guarded t o) Q E p s = Sem.wp M Γ (if cleanStack ((Γ.code, p) :: Γ.below) = true then t else o) Q E p s := rfl
theorem clean_of {Γ : PySem.Ctx} {p : Pos} (h : cleanStack ((Γ.code, p) :: Γ.below) = true) : Clean Γ := by
  unfold cleanStack at h
  rw [List.all_cons, Bool.and_eq_true, List.all_eq_true] at h
  exact h

theorem guarded_any {M : Model} {A : Around} {t : Sem Value} {Q : Value → Shared → Prop} {E : Value → Shared → Prop} {s : Shared} {v : Value} (h : W M A t Q s) (ho : Q v s) : wpAny M A (guarded t (pure v)) Q E s := fun Γ p hΓ => by
  rw [wp_guarded]
  by_cases hc : cleanStack ((Γ.code, p) :: Γ.below) = true
  · rw [if_pos hc]
    exact Sem.wp_mono M Γ t (fun _ _ _ h => h) (fun _ _ _ h => h.elim) p s (h Γ p hΓ (clean_of hc))
  · rw [if_neg hc]; exact ho

theorem sched_guarded {prog : Program} {w : World} {t o : Sem Fin} {s : Shared} (hr : s.asleep) {n : Nat} {out : Outcome} {s' : Shared}
    (h : schedN (denote table) prog w n (.single s ⟨guarded t o, .builtin "claim.caller" {}, default, []⟩) = .halted out s') :
    ∃ m, schedN (denote table) prog w m (.single s ⟨t, .builtin "claim.caller" {}, default, []⟩) = .halted out s' := by
  cases n with
  | zero => cases h
  | succ n =>
    have hs : step (denote table) prog w s ⟨guarded t o, .builtin "claim.caller" {}, default, []⟩ = .go s ⟨t, .builtin "claim.caller" {}, default, []⟩ := by
      have hc : cleanStack [(Code.builtin "claim.caller" {}, (default : Pos))] = true := by decide +kernel
      show Step.go s ⟨(if cleanStack ((Code.builtin "claim.caller" {}, (default : Pos)) :: ([] : List Frame).map Frame.where_) = true then t else o), _, _, _⟩ = _
      rw [show (([] : List Frame).map Frame.where_) = [] from rfl, if_pos hc]
    rcases sstep_single (denote table) prog w s ⟨guarded t o, .builtin "claim.caller" {}, default, []⟩ rfl hr with e | e
    · simp only [schedN, e, hs] at h
      exact ⟨n, h⟩
    · rw [hs] at e; cases e

theorem callFrom_guarded {c : ClaimW} {tree other : List Value → Sem Fin} {w : World} {free : Addr → Prop} {gens : Prop} {kept : Heap → Prop} {s : Shared} (hz : s.asleep)
    (h : c.CallFrom (fun vs => ⟨guarded (tree vs) (other vs), .builtin "claim.caller" {}, default, []⟩) w free gens kept s) :
    c.CallFrom (fun vs => ⟨tree vs, .builtin "claim.caller" {}, default, []⟩) w free gens kept s := by
  intro args h1 h2 ord h3
  obtain ⟨vs, s₁, hl, n, o, s', hrun, r⟩ := h args h1 h2 ord h3
  have hz₁ : s₁.asleep := Shared.asleep_of_life (layAllW_rest _ _ _ hl).2.2.2 hz
  obtain ⟨m, hm⟩ := sched_guarded hz₁ hrun
  exact ⟨vs, s₁, hl, m, o, s', hm, r⟩

theorem holdsOpen_guarded {c : ClaimW} {tree other : List Value → Sem Fin} {defs keeps : List Str} {writes : Bool}
    (h : c.HoldsOpenBy (fun vs => ⟨guarded (tree vs) (other vs), .builtin "claim.caller" {}, default, []⟩) defs keeps writes) :
    c.HoldsOpenBy (fun vs => ⟨tree vs, .builtin "claim.caller" {}, default, []⟩) defs keeps writes := by
  refine ⟨h.1, h.2.1, fun w => ⟨(h.2.2 w).1, fun s hs => ?_⟩⟩
  obtain ⟨s₀, hf, hg, s₁, hT, a, b, d, e⟩ := (h.2.2 w).2 s hs
  have hz : s.asleep := AfterImport.life hs
  have hz₀ : s₀.asleep := Shared.asleep_of_life (fence_lifeW hf) hz
  have hz₁ : s₁.asleep := Shared.asleep_of_life hT.2.1 hz₀
  exact ⟨s₀, hf, hg, s₁, hT, a, b, d, callFrom_guarded hz₁ e⟩

/-- the caller's tree, looked at with the stack known, goes as the call goes -/
theorem tree_guarded {prog : Program} {w : World} {name : Str} {vs : List Value} {s : Shared} {mg : Str → Option Value} {f : Value} {Q : Fin → Shared → Prop} {E : Value → Shared → Prop}
    (hg : s.heap.Ns mainGlobals mg) (hf : mg name = some f) (h : wpAny (model prog w) callerA (guarded (PySem.call f vs) (pure (.bool true))) (fun v s' => Q (.done (.ret v)) s') E s) :
    wpAny (model prog w) callerA (guarded (do match ← nsGet mainNs name with
      | some f => do ret (← PySem.call f vs)
      | none => unsupported "claim.caller:no-such-global") (pure (.done (.ret (.bool true))))) Q E s := fun Γ p hΓ => by
  have h' := h Γ p hΓ
  rw [wp_guarded] at h' ⊢
  by_cases hc : cleanStack ((Γ.code, p) :: Γ.below) = true
  · rw [if_pos hc, Sem.wp_bind']
    have k : wpAny (model prog w) callerA (nsGet mainNs name) (fun x s' => x = some f ∧ s' = s) E s := wpAny_nsGet hg ⟨hf, rfl⟩
    refine Sem.wp_mono _ Γ _ (fun x p' s' hx => ?_) (fun _ _ _ e => e) p s (k Γ p hΓ)
    obtain ⟨rfl, rfl⟩ := hx
    have h'' := h Γ p' hΓ
    rw [wp_guarded, if_pos (show cleanStack ((Γ.code, p') :: Γ.below) = true from hc)] at h''
    dsimp only
    rw [Sem.wp_bind']
    exact Sem.wp_mono _ Γ _ (fun _ _ _ e => e) (fun _ _ _ e => e) p' s' h''
  · rw [if_neg hc] at h' ⊢
    exact h'

/-- the law holds, if it does on clean stacks: nothing is asked of the opening but its facts, nothing of the world -/
theorem head {r : OpenRow} {q : Program} {loose : List Str} {Xt : Shared → Bool} {XP : (Str → Option Value) → Heap → Prop} {d : DefRec} {kwd : List (Str × Expr)} {N : Nat}
    (left : LeftO r.prog q loose Xt (fun _ => ()) (fun _ => ()) N)
    (facts : ∀ s, Xt s = true → XP (s.heap.nsMap mainGlobals) s.heap ∧ RecFacts r.records s.heap)
    (stay : ∀ mg h h', XP mg h → (∀ b o, h.get? b = some o → h'.get? b = some o) → XP mg h')
    (stands : defOf q r.name = some (d, kwd) ∧ r.prog.theDef r.name = some (d.params, d.body, d.scope) ∧ kwWritten? d.params.kwonlyargs d.params.kw_defaults = some kwd)
    (looks : r.wellSaid = true ∧ (!r.writes || r.records.isEmpty) = true ∧ (chainsOk q && opensWell r.prog && (PySem.W.frees r.toRowW && r.within.isEmpty)) = true) (bare : r.prog.bare) (ends : r.toRowW.promised)
    (walk : WalkO q loose XP (fun _ _ => True) r.toRowW d kwd fun f vs => guarded (PySem.call f vs) (pure (.bool true))) : r.Holds := by
  refine ⟨looks.1, ends, holdsOpen_guarded (open_anyG (r := r.toRowW) left (YP := fun _ _ => True) (fun _ _ _ => trivial) (fun _ _ _ _ _ => trivial) (fun s e => (facts s e).1) stay (fun s e => (facts s e).2) looks.2.1 looks.2.2 bare ends (fun _ _ _ _ _ _ _ hg hf h => tree_guarded hg hf h) ?_ ?_)⟩
  · intro w s hs G n hn
    have e : n = r.name := by
      by_cases hpin : r.pinned = true
      · rw [if_pos hpin] at hn; exact List.mem_singleton.mp hn
      · rw [if_neg hpin] at hn; cases hn
    rw [e]
    exact pinned_of_view hs G stands.1 stands.2.1 stands.2.2
  · intro w s₀ s₁ mg mb G _ args vs as hpre hlay L low
    have F := G.fn stands.1
    obtain ⟨fa, o, pm, cd, doc, dV, kV, hn, ho, hd, hcd, hD⟩ := F
    exact ⟨.ref fa, hn, walk w s₀ s₁ mg mb G trivial fa o pm cd doc dV kV ho hd hcd hD (defOf_name stands.1 ▸ hn) L.gens args vs as hpre hlay L.reads L.well (L.low low)⟩
end

section
/-- the statements of the top that are held as they are written: all but the four that bind loose names -/
noncomputable def heldAt : List Nat := [0, 1, 3, 4, 5, 6, 7, 8, 9, 11, 12, 13, 14, 15, 16, 17, 18, 19, 20, 21, 22, 23, 24, 25, 26, 27, 28, 29, 30, 31, 32, 33, 34, 35, 36, 37, 38, 39, 40, 41, 42, 43, 44, 45, 46, 47]
noncomputable def Vw : Program := view PySem.Challenge.pw_pq1184_01 heldAt
noncomputable def lvs : List (Str × WData) := [(Str.ofString "COMMA", WData.int 44), (Str.ofString "MINUS", WData.int 45), (Str.ofString "BACKSLASH", WData.int 92)]
noncomputable def lss : List Str := [Str.ofString "TermError", Str.ofString "COMMA", Str.ofString "MINUS", Str.ofString "BACKSLASH"]
abbrev xt (s : Shared) : Bool := xlAt Vw lvs s && recOk [] s
abbrev LeftAt (w : World) : Prop :=
  (openEnds treeTable PySem.Challenge.pw_pq1184_01 w 3470).map (fun s => (openSeen Vw lss (importedModules PySem.Challenge.pw_pq1184_01.main.body) xt true s, ())) = some (openGood Vw lss, ())
set_option maxRecDepth 100000
set_option maxHeartbeats 8000000
theorem left_no (w : World) : LeftAt (w.withFollow "special-get-raises" false) := by unfold LeftAt; kernel_rfl
end

section
/-- plain values -/
inductive V where
  | none
  | bool (b : Bool)
  | int (i : Int)
  | byt (b : List UInt8)
  | tup (vs : List V)
  | lst (vs : List V)
  | rng (n : Int)
  | own
  | deck
  deriving Inhabited

/-- what the walk knows of the heap: frozen objects, the frame's own list or bytearray, the deck (its dict, its cells) -/
structure Gh where
  K : Addr → Option Obj
  oa : Option Addr
  dk : Option (Addr × Addr)

noncomputable def rangeObj (n : Int) (t u v : Tok) : Obj → Prop := fun o => o = { cls := .type "range", dict := none, data := .fields #[.int 0 t, .int n u, .int 1 v], slots := #[] }

mutual
noncomputable def Val (G : Gh) : V → Value → Prop
  | .none, v => v = .none
  | .bool b, v => v = .bool b
  | .int i, v => ∃ t, v = .int i t
  | .byt b, v => ∃ t, v = .bytes b.toArray t
  | .tup ds, v => ∃ a ws n, v = .ref a ∧ G.K a = some { cls := .type "tuple", data := .seq ws n } ∧ Vals G ds ws.toList
  | .lst ds, v => ∃ a o ws n, v = .ref a ∧ G.K a = some o ∧ o.cls = .type "list" ∧ o.data = .seq ws n ∧ Vals G ds ws.toList
  | .rng n, v => ∃ a o t u x, v = .ref a ∧ G.K a = some o ∧ rangeObj n t u x o
  | .own, v => ∃ a, G.oa = some a ∧ v = .ref a
  | .deck, v => ∃ p, G.dk = some p ∧ v = .ref p.1
noncomputable def Vals (G : Gh) : List V → List Value → Prop
  | [], vs => vs = []
  | d :: ds, vs => ∃ v r, vs = v :: r ∧ Val G d v ∧ Vals G ds r
end

structure Gle (G G' : Gh) : Prop where
  K : ∀ a o, G.K a = some o → G'.K a = some o
  oa : ∀ a, G.oa = some a → G'.oa = some a
  dk : ∀ p, G.dk = some p → G'.dk = some p

theorem Gle.refl (G : Gh) : Gle G G := ⟨fun _ _ h => h, fun _ h => h, fun _ h => h⟩
theorem Gle.trans {G G' G'' : Gh} (h : Gle G G') (h' : Gle G' G'') : Gle G G'' :=
  ⟨fun a o e => h'.K a o (h.K a o e), fun a e => h'.oa a (h.oa a e), fun p e => h'.dk p (h.dk p e)⟩

mutual
theorem Val.mono {G G' : Gh} (h : Gle G G') : ∀ {d : V} {v : Value}, Val G d v → Val G' d v
  | .none, _, x => by simpa [Val] using x
  | .bool _, _, x => by simpa [Val] using x
  | .int _, _, x => by simpa [Val] using x
  | .byt _, _, x => by simpa [Val] using x
  | .tup ds, _, x => by
    simp only [Val] at x ⊢
    obtain ⟨a, ws, n, e1, e2, e5⟩ := x
    exact ⟨a, ws, n, e1, h.K _ _ e2, Vals.mono h e5⟩
  | .lst ds, _, x => by
    simp only [Val] at x ⊢
    obtain ⟨a, o, ws, n, e1, e2, e3, e4, e5⟩ := x
    exact ⟨a, o, ws, n, e1, h.K _ _ e2, e3, e4, Vals.mono h e5⟩
  | .rng n, _, x => by
    simp only [Val] at x ⊢
    obtain ⟨a, o, t, u, y, e1, e2, e3⟩ := x
    exact ⟨a, o, t, u, y, e1, h.K _ _ e2, e3⟩
  | .own, _, x => by
    simp only [Val] at x ⊢
    obtain ⟨a, e1, e2⟩ := x
    exact ⟨a, h.oa _ e1, e2⟩
  | .deck, _, x => by
    simp only [Val] at x ⊢
    obtain ⟨a, e1, e2⟩ := x
    exact ⟨a, h.dk _ e1, e2⟩
theorem Vals.mono {G G' : Gh} (h : Gle G G') : ∀ {ds : List V} {vs : List Value}, Vals G ds vs → Vals G' ds vs
  | [], _, x => by simpa [Vals] using x
  | d :: ds, _, x => by
    simp only [Vals] at x ⊢
    obtain ⟨v, r, e1, e2, e3⟩ := x
    exact ⟨v, r, e1, Val.mono h e2, Vals.mono h e3⟩
end

/-- what a frame's own mutable holds -/
inductive OwnC where
  | lst (vs : List V)
  | byt (b : List UInt8)
inductive OwnSt where
  | fresh
  | live (c : OwnC)
  | dead
structure Deck where
  cells : List Int
  mixed : Int
  turn : Int
structure St where
  loc : List (Option V)
  own : OwnSt
  dk : Option Deck

/-- a block: its names' table; its variables by number (a name; is it a cell?); the global names that it reads; is it a def (or a comprehension) -/
structure Ctx where
  names : List (Str × NameKind)
  vars : List (Option (Str × Bool))
  globs : List Str
  fn : Bool

noncomputable def Ctx.ok (Γ : Ctx) : Bool :=
  Γ.vars.all (fun o => match o with
    | none => true
    | some (x, c) => Γ.names.lookup x == some (if c then NameKind.cell else NameKind.local) && !(x == ("__debug__" : Str))) &&
  decide ((Γ.vars.filterMap (·.map (·.1))).Nodup) &&
  Γ.globs.all fun x => Γ.names.lookup x == some NameKind.globalImplicit && !(x == ("__debug__" : Str))

structure Base where
  prog : Program
  w : World
  H : Heap
  mg : Str → Option Value
  mb : Str → Option Value

structure Base.Ok (B : Base) : Prop where
  g : B.H.Ns mainGlobals B.mg
  b : B.H.Ns builtinsNs B.mb
  nolimit : B.H.NoLimit
  big : sysModules < B.H.objs.size

noncomputable def Mut (Γ : Ctx) (env : Env) (G : Gh) (b : Addr) : Prop :=
  b = env.locals ∨ (Γ.fn = true ∧ ∃ x, env.cells.lookup x = some b) ∨ G.oa = some b ∨ ∃ p, G.dk = some p ∧ (b = p.1 ∨ b = p.2)

theorem Mut.mono {Γ : Ctx} {env : Env} {G G' : Gh} {b : Addr} (h : Gle G G') : Mut Γ env G b → Mut Γ env G' b
  | .inl e => .inl e
  | .inr (.inl e) => .inr (.inl e)
  | .inr (.inr (.inl e)) => .inr (.inr (.inl (h.oa _ e)))
  | .inr (.inr (.inr ⟨p, e, r⟩)) => .inr (.inr (.inr ⟨p, h.dk _ e, r⟩))

structure Step (Γ : Ctx) (env : Env) (G : Gh) (s : Shared) (G' : Gh) (s' : Shared) : Prop where
  same : ∃ h tk, s' = { s with heap := h, toks := tk }
  le : Gle G G'
  kn : ∀ a, G'.K a ≠ none → G.K a ≠ none ∨ s.heap.get? a = none ∨ G'.oa = some a
  on : ∀ a, G'.oa = some a → G.oa = some a ∨ s.heap.get? a = none
  dn : ∀ p, G'.dk = some p → G.dk = some p ∨ (s.heap.get? p.1 = none ∧ s.heap.get? p.2 = none)
  keep : ∀ b o, s.heap.get? b = some o → ¬ Mut Γ env G' b → s'.heap.get? b = some o
  ex : ∀ b, s'.heap.get? b = none → s.heap.get? b = none

theorem Step.refl {Γ : Ctx} {env : Env} (G : Gh) (s : Shared) : Step Γ env G s G s :=
  ⟨⟨s.heap, s.toks, rfl⟩, Gle.refl G, fun _ h => .inl h, fun _ h => .inl h, fun _ h => .inl h, fun _ _ e _ => e, fun _ e => e⟩

theorem Step.trans {Γ : Ctx} {env : Env} {G G' G'' : Gh} {s s' s'' : Shared} (h : Step Γ env G s G' s') (h' : Step Γ env G' s' G'' s'') : Step Γ env G s G'' s'' where
  same := by
    obtain ⟨a, b, rfl⟩ := h.same
    obtain ⟨c, d, rfl⟩ := h'.same
    exact ⟨c, d, rfl⟩
  le := h.le.trans h'.le
  kn := fun a e => by
    rcases h'.kn a e with e | e | e
    · rcases h.kn a e with e | e | e
      · exact .inl e
      · exact .inr (.inl e)
      · exact .inr (.inr (h'.le.oa _ e))
    · exact .inr (.inl (h.ex a e))
    · exact .inr (.inr e)
  on := fun a e => by
    rcases h'.on a e with e | e
    · exact h.on a e
    · exact .inr (h.ex a e)
  dn := fun p e => by
    rcases h'.dn p e with e | e
    · exact h.dn p e
    · exact .inr ⟨h.ex _ e.1, h.ex _ e.2⟩
  keep := fun b o e n => h'.keep b o (h.keep b o e fun m => n (m.mono h'.le)) n
  ex := fun b e => h.ex b (h'.ex b e)

noncomputable def Deck.kvs (d : Deck) (c : Addr) (t u : Tok) : List (Str × Value) := [(Str.ofString "cells", .ref c), (Str.ofString "mixed", .int d.mixed t), (Str.ofString "turn", .int d.turn u)]

noncomputable def OwnInv (G : Gh) (h : Heap) : OwnSt → Prop
  | .fresh => G.oa = none
  | .live (.lst ds) => ∃ a ws, G.oa = some a ∧ h.PlainList a ws ∧ Vals G ds ws.toList
  | .live (.byt b) => ∃ a, G.oa = some a ∧ h.get? a = some { cls := .type "bytearray", data := .bytearray b.toArray }
  | .dead => True

noncomputable def DeckInv (B : Base) (G : Gh) (h : Heap) : Option Deck → Prop
  | none => G.dk = none
  | some d => ∃ p t u ws, G.dk = some p ∧ h.DictOf (strKind B.prog B.w) p.1 (d.kvs p.2 t u) ∧ h.PlainList p.2 ws ∧ IntsAre ws.toList d.cells

theorem OwnInv.mono {G G' : Gh} {h h' : Heap} {o : OwnSt} (x : OwnInv G h o) (le : Gle G G') (hn : o = .fresh → G'.oa = none) (hk : ∀ a p, G.oa = some a → h.get? a = some p → h'.get? a = some p) : OwnInv G' h' o := by
  cases o with
  | fresh => exact hn rfl
  | dead => trivial
  | live c =>
    cases c with
    | lst ds => obtain ⟨a, ws, e1, ⟨n, e2⟩, e5⟩ := x; exact ⟨a, ws, le.oa _ e1, ⟨n, hk _ _ e1 e2⟩, e5.mono le⟩
    | byt b => obtain ⟨a, e1, e2⟩ := x; exact ⟨a, le.oa _ e1, hk _ _ e1 e2⟩
theorem DeckInv.mono {B : Base} {G G' : Gh} {h h' : Heap} {d : Option Deck} (x : DeckInv B G h d) (le : Gle G G') (hn : d = none → G'.dk = none) (hk : ∀ p a o, G.dk = some p → a = p.1 ∨ a = p.2 → h.get? a = some o → h'.get? a = some o) : DeckInv B G' h' d := by
  cases d with
  | none => exact hn rfl
  | some d =>
    obtain ⟨p, t, u, ws, e1, ⟨o, es, ep, ho, r⟩, ⟨nc, hoc⟩, hi⟩ := x
    exact ⟨p, t, u, ws, le.dk _ e1, ⟨o, es, ep, hk p _ _ e1 (.inl rfl) ho, r⟩, ⟨nc, hk p _ _ e1 (.inr rfl) hoc⟩, hi⟩
theorem OwnInv.none {G : Gh} {h : Heap} {o : OwnSt} (x : OwnInv G h o) (e : o = .fresh) : G.oa = none := by subst e; exact x
theorem DeckInv.none {B : Base} {G : Gh} {h : Heap} {o : Option Deck} (x : DeckInv B G h o) (e : o = none) : G.dk = none := by subst e; exact x

structure Inv (B : Base) (Γ : Ctx) (env : Env) (G : Gh) (st : St) (s : Shared) : Prop where
  kind : env.scope.kind = .function
  names : env.scope.names = Γ.names
  globals : env.globals = mainGlobals
  builtins : env.builtins = builtinsNs
  base : ∀ a o, B.H.get? a = some o → G.K a = some o
  known : ∀ a o, G.K a = some o → s.heap.get? a = some o
  KL : G.K env.locals = none
  Kc : Γ.fn = true → ∀ x c, env.cells.lookup x = some c → G.K c = none
  Ko : ∀ c, st.own = .live c → ∀ a, G.oa = some a → G.K a = none
  Kd : ∀ p, G.dk = some p → G.K p.1 = none ∧ G.K p.2 = none
  ns : ∃ m cm : Str → Option Value, s.heap.Ns env.locals m ∧ (∀ x c, env.cells.lookup x = some c → s.heap.IsCell c (cm x)) ∧
    (∀ (i : Nat) (x : Str) (c : Bool) (d : V), Γ.vars[i]? = some (some (x, c)) → st.loc[i]? = some (some d) → ∃ v, Val G d v ∧ (c = false → m x = some v) ∧ (c = true → cm x = some v))
  ok : Γ.ok = true
  cells : ∀ (i : Nat) (x : Str), Γ.vars[i]? = some (some (x, true)) → ∃ c, env.cells.lookup x = some c
  cap : ∀ x y c, env.cells.lookup x = some c → env.cells.lookup y = some c → x = y
  cL : ∀ x c, env.cells.lookup x = some c → c ≠ env.locals
  oL : ∀ a, G.oa = some a → a ≠ env.locals ∧ ∀ x c, env.cells.lookup x = some c → c ≠ a
  dL : ∀ p, G.dk = some p → p.1 ≠ env.locals ∧ p.2 ≠ env.locals ∧ p.1 ≠ p.2 ∧ (∀ x c, env.cells.lookup x = some c → c ≠ p.1 ∧ c ≠ p.2) ∧ ∀ a, G.oa = some a → a ≠ p.1 ∧ a ≠ p.2
  own : OwnInv G s.heap st.own
  oex : ∀ a, G.oa = some a → s.heap.get? a ≠ none
  deck : DeckInv B G s.heap st.dk

structure Room (n : Nat) (A : Around) : Prop where
  handled : A.handled = none
  guards : A.guards = some []
  depth : A.depth + n < 1000
  units : A.units + 100 * n + 100 < 9900
end

section
noncomputable def Used (env : Env) (G : Gh) (b : Addr) : Prop :=
  G.K b ≠ none ∨ b = env.locals ∨ (∃ x, env.cells.lookup x = some b) ∨ G.oa = some b ∨ ∃ p, G.dk = some p ∧ (b = p.1 ∨ b = p.2)

section
variable {B : Base} {Γ : Ctx} {env : Env} {G : Gh} {st : St} {s : Shared}


theorem Inv.heap (I : Inv B Γ env G st s) {h' : Heap} {tk : Nat} (hk : ∀ b o, Used env G b → s.heap.get? b = some o → h'.get? b = some o) :
    Inv B Γ env G st { s with heap := h', toks := tk } where
  kind := I.kind
  names := I.names
  globals := I.globals
  builtins := I.builtins
  base := I.base
  known := fun a o e => hk a o (.inl (by rw [e]; exact fun x => nomatch x)) (I.known a o e)
  KL := I.KL
  Kc := I.Kc
  Ko := I.Ko
  Kd := I.Kd
  ns := by
    obtain ⟨m, cm, h1, h2, h3⟩ := I.ns
    exact ⟨m, cm, h1.at' fun o e => hk _ o (.inr (.inl rfl)) e, fun x c e => by
      obtain ⟨o, ho, hd⟩ := h2 x c e
      exact ⟨o, hk c o (.inr (.inr (.inl ⟨x, e⟩))) ho, hd⟩, h3⟩
  ok := I.ok
  cells := I.cells
  cap := I.cap
  cL := I.cL
  oL := I.oL
  dL := I.dL
  own := I.own.mono (.refl _) I.own.none fun a o e1 e2 => hk a o (.inr (.inr (.inr (.inl e1)))) e2
  oex := fun a e => by
    have h := I.oex a e
    cases hq : s.heap.get? a with
    | none => exact absurd hq h
    | some o =>
      show h'.get? a ≠ none
      rw [hk a o (.inr (.inr (.inr (.inl e)))) hq]
      exact fun x => nomatch x
  deck := I.deck.mono (.refl _) I.deck.none fun p a o e u e2 => hk a o (.inr (.inr (.inr (.inr ⟨p, e, u⟩)))) e2

theorem Inv.keeps (I : Inv B Γ env G st s) {h' : Heap} {tk : Nat} (hk : ∀ b o, s.heap.get? b = some o → h'.get? b = some o) :
    Inv B Γ env G st { s with heap := h', toks := tk } := I.heap fun b o _ e => hk b o e
theorem Step.keeps {h' : Heap} {tk : Nat} (hk : ∀ b o, s.heap.get? b = some o → h'.get? b = some o) :
    Step Γ env G s G { s with heap := h', toks := tk } where
  same := ⟨h', tk, rfl⟩
  le := .refl _
  kn := fun _ h => .inl h
  on := fun _ h => .inl h
  dn := fun _ h => .inl h
  keep := fun b o e _ => hk b o e
  ex := fun b e => by
    cases hq : s.heap.get? b with
    | none => rfl
    | some o => rw [show h'.get? b = some o from hk b o hq] at e; cases e
theorem Inv.toks (I : Inv B Γ env G st s) {tk : Nat} : Inv B Γ env G st { s with toks := tk } := I.keeps fun _ _ e => e
theorem Step.toks {tk : Nat} : Step Γ env G s G { s with toks := tk } := Step.keeps (h' := s.heap) fun _ _ e => e

theorem Inv.lt (I : Inv B Γ env G st s) {b : Addr} (u : Used env G b) : b < s.heap.objs.size := by
  have key : ∃ o, s.heap.get? b = some o := by
    rcases u with u | u | ⟨x, u⟩ | u | ⟨p, e, u⟩
    · cases hq : G.K b with
      | none => exact absurd hq u
      | some o => exact ⟨o, I.known b o hq⟩
    · subst u
      obtain ⟨m, cm, ⟨o, _, _, ho, _⟩, _⟩ := I.ns
      exact ⟨o, ho⟩
    · obtain ⟨m, cm, _, h2, _⟩ := I.ns
      obtain ⟨o, ho, _⟩ := h2 x b u
      exact ⟨o, ho⟩
    · cases hq : s.heap.get? b with
      | none => exact absurd hq (I.oex b u)
      | some o => exact ⟨o, rfl⟩
    · have h := I.deck
      cases hd : st.dk with
      | none => rw [hd] at h; rw [show G.dk = none from h] at e; cases e
      | some d =>
        rw [hd] at h
        obtain ⟨p', t, v, ws, e1, ⟨o, es, ep, ho, r⟩, ⟨nc, hoc⟩, hi⟩ := h
        rw [e] at e1
        cases e1
        rcases u with u | u
        · exact ⟨o, u ▸ ho⟩
        · exact ⟨_, u ▸ hoc⟩
  obtain ⟨o, ho⟩ := key
  exact Heap.lt_size ho

noncomputable def Gh.know (G : Gh) (a : Addr) (o : Obj) : Gh := { G with K := fun b => if b = a then some o else G.K b }

theorem Gle.know {a : Addr} {o : Obj} (h : G.K a = none) : Gle G (G.know a o) where
  K := fun b p e => by
    show (if b = a then some o else G.K b) = some p
    by_cases hb : b = a
    · subst hb; rw [h] at e; cases e
    · rw [if_neg hb]; exact e
  oa := fun _ e => e
  dk := fun _ e => e

theorem know_at {a : Addr} {o : Obj} : (G.know a o).K a = some o := if_pos rfl
theorem know_ne {a b : Addr} {o : Obj} (h : b ≠ a) : (G.know a o).K b = G.K b := if_neg h

theorem Inv.L_used : Used env G env.locals := .inr (.inl rfl)

theorem Inv.know (I : Inv B Γ env G st s) {a : Addr} {o : Obj} (e : s.heap.get? a = some o) (hn : G.K a = none) (hL : a ≠ env.locals)
    (hc : ∀ x c, env.cells.lookup x = some c → c ≠ a) (ho : ∀ c, st.own = .live c → G.oa ≠ some a) (hd : ∀ p, G.dk = some p → a ≠ p.1 ∧ a ≠ p.2) :
    Inv B Γ env (G.know a o) st s where
  kind := I.kind
  names := I.names
  globals := I.globals
  builtins := I.builtins
  base := fun b p x => (Gle.know hn).K b p (I.base b p x)
  known := fun b p x => by
    by_cases hb : b = a
    · subst hb; rw [know_at] at x; cases x; exact e
    · rw [know_ne hb] at x; exact I.known b p x
  KL := by rw [know_ne (Ne.symm hL)]; exact I.KL
  Kc := fun hf x c h => by rw [know_ne (hc x c h)]; exact I.Kc hf x c h
  Ko := fun c h b hb => by rw [know_ne (fun x : b = a => ho c h (by rw [← x]; exact hb))]; exact I.Ko c h b hb
  Kd := fun p h => by rw [know_ne (Ne.symm (hd p h).1), know_ne (Ne.symm (hd p h).2)]; exact I.Kd p h
  ns := by
    obtain ⟨m, cm, h1, h2, h3⟩ := I.ns
    exact ⟨m, cm, h1, h2, fun i x c d a1 a2 => by
      obtain ⟨v, b1, b2⟩ := h3 i x c d a1 a2
      exact ⟨v, b1.mono (Gle.know hn), b2⟩⟩
  ok := I.ok
  cells := I.cells
  cap := I.cap
  cL := I.cL
  oL := I.oL
  dL := I.dL
  own := I.own.mono (Gle.know hn) I.own.none fun _ _ _ e2 => e2
  oex := I.oex
  deck := I.deck.mono (Gle.know hn) I.deck.none fun _ _ _ _ _ e2 => e2

/-- a new object, known from now on -/
theorem Inv.alloc (I : Inv B Γ env G st s) {o : Obj} {tk : Nat} (hf : o.isFreed = false) :
    Inv B Γ env (G.know s.heap.objs.size o) st { s with heap := s.heap.push o, toks := tk } ∧ Step Γ env G s (G.know s.heap.objs.size o) { s with heap := s.heap.push o, toks := tk } := by
  have hnew : ∀ {b}, Used env G b → b ≠ s.heap.objs.size := fun u => Nat.ne_of_lt (I.lt u)
  have hK : G.K s.heap.objs.size = none := by
    cases h : G.K s.heap.objs.size with
    | none => rfl
    | some p => exact absurd rfl (hnew (.inl (by rw [h]; exact fun x => nomatch x)))
  have keep : ∀ b p, s.heap.get? b = some p → (s.heap.push o).get? b = some p := fun b p e => Heap.get?_push_of_some _ e
  refine ⟨(I.keeps (tk := tk) keep).know (Heap.get?_push_size _ hf) hK (Ne.symm (hnew (.inr (.inl rfl)))) (fun x c h => hnew (.inr (.inr (.inl ⟨x, h⟩))))
    (fun c _ h => absurd rfl (hnew (.inr (.inr (.inr (.inl h)))))) (fun p h => ⟨Ne.symm (hnew (.inr (.inr (.inr (.inr ⟨p, h, .inl rfl⟩))))), Ne.symm (hnew (.inr (.inr (.inr (.inr ⟨p, h, .inr rfl⟩)))))⟩), ?_⟩
  refine { Step.keeps (G := G) (tk := tk) keep with le := Gle.know hK, kn := fun a h => ?_ }
  by_cases ha : a = s.heap.objs.size
  · subst ha
    right; left
    cases hq : s.heap.get? s.heap.objs.size with
    | none => rfl
    | some p => exact absurd (Heap.lt_size hq) (Nat.lt_irrefl _)
  · rw [know_ne ha] at h; exact .inl h

theorem get_size (h : Heap) : h.get? h.objs.size = none := by
  cases hq : h.get? h.objs.size with
  | none => rfl
  | some p => exact absurd (Heap.lt_size hq) (Nat.lt_irrefl _)

/-- an object that no fact names is changed -/
theorem Inv.off (I : Inv B Γ env G st s) {j : Addr} (hj : ¬ Used env G j) {h' : Heap} {tk : Nat} (hk : ∀ b o, b ≠ j → s.heap.get? b = some o → h'.get? b = some o) :
    Inv B Γ env G st { s with heap := h', toks := tk } := I.heap fun b o u e => hk b o (fun x => hj (x ▸ u)) e

theorem Step.chg {G₀ : Gh} {s₀ : Shared} (S : Step Γ env G₀ s₀ G s) {j : Addr} (hj : s₀.heap.get? j = none ∨ Mut Γ env G j) {h' : Heap} {tk : Nat}
    (hk : ∀ b o, b ≠ j → s.heap.get? b = some o → h'.get? b = some o) (hx : h'.get? j ≠ none) : Step Γ env G₀ s₀ G { s with heap := h', toks := tk } where
  same := by obtain ⟨a, b, rfl⟩ := S.same; exact ⟨h', tk, rfl⟩
  le := S.le
  kn := S.kn
  on := S.on
  dn := S.dn
  keep := fun b o e n => by
    refine hk b o ?_ (S.keep b o e n)
    rintro rfl
    rcases hj with hj | hj
    · rw [hj] at e; cases e
    · exact n hj
  ex := fun b e => by
    by_cases hb : b = j
    · subst hb; exact absurd e hx
    · refine S.ex b ?_
      cases hq : s.heap.get? b with
      | none => rfl
      | some o => rw [show h'.get? b = some o from hk b o hb hq] at e; cases e

theorem Step.know {G₀ : Gh} {s₀ : Shared} (S : Step Γ env G₀ s₀ G s) {a : Addr} {o : Obj} (hn : G.K a = none) (ha : s₀.heap.get? a = none ∨ G.oa = some a) :
    Step Γ env G₀ s₀ (G.know a o) s where
  same := S.same
  le := S.le.trans (Gle.know hn)
  kn := fun b h => by
    by_cases hb : b = a
    · subst hb
      rcases ha with ha | ha
      · exact .inr (.inl ha)
      · exact .inr (.inr ha)
    · rw [know_ne hb] at h; exact S.kn b h
  on := S.on
  dn := S.dn
  keep := S.keep
  ex := S.ex

theorem get_not_used (I : Inv B Γ env G st s) : ¬ Used env G s.heap.objs.size := fun u => Nat.lt_irrefl _ (I.lt u)

/-- what was there and unused before a step is unused behind it -/
theorem Step.unused {G' : Gh} {s' : Shared} (S : Step Γ env G s G' s') {j : Addr} (hj : ¬ Used env G j) (he : s.heap.get? j ≠ none) : ¬ Used env G' j := by
  rintro (u | u | u | u | ⟨p, e, u⟩)
  · rcases S.kn j u with h | h | h
    · exact hj (.inl h)
    · exact he h
    · rcases S.on j h with h | h
      · exact hj (.inr (.inr (.inr (.inl h))))
      · exact he h
  · exact hj (.inr (.inl u))
  · exact hj (.inr (.inr (.inl u)))
  · rcases S.on j u with h | h
    · exact hj (.inr (.inr (.inr (.inl h))))
    · exact he h
  · rcases S.dn p e with h | h
    · exact hj (.inr (.inr (.inr (.inr ⟨p, h, u⟩))))
    · rcases u with u | u
      · exact he (u ▸ h.1)
      · exact he (u ▸ h.2)
theorem Step.kept {G' : Gh} {s' : Shared} (S : Step Γ env G s G' s') {j : Addr} {o : Obj} (hj : ¬ Used env G j) (he : s.heap.get? j = some o) : s'.heap.get? j = some o := by
  have hu := S.unused hj (by rw [he]; exact fun x => nomatch x)
  refine S.keep j o he ?_
  rintro (u | ⟨_, u⟩ | u | u)
  · exact hu (.inr (.inl u))
  · exact hu (.inr (.inr (.inl u)))
  · exact hu (.inr (.inr (.inr (.inl u))))
  · exact hu (.inr (.inr (.inr (.inr u))))
end
end

section
abbrev Sm := St → (V → St → Prop) → Prop
abbrev Ts := St → (Bool → St → Prop) → Prop
abbrev Ls := St → (List V → St → Prop) → Prop
inductive Fl where
  | next
  | ret (v : V)
abbrev Sx := St → (Fl → St → Prop) → Prop

noncomputable def relB (_ : Gh) (b c : Bool) : Prop := b = c
noncomputable def relU (_ : Gh) (_ _ : Unit) : Prop := True
noncomputable def relF (G : Gh) : Fl → Flow → Prop
  | .next, f => f = .next
  | .ret d, f => ∃ v, f = .ret v ∧ Val G d v

noncomputable def Out {δ β : Type} (B : Base) (Γ : Ctx) (env : Env) (G : Gh) (s : Shared) (rel : Gh → δ → β → Prop) (Q : δ → St → Prop) : β → Shared → Prop :=
  fun v s' => ∃ d st' G', Q d st' ∧ rel G' d v ∧ Inv B Γ env G' st' s' ∧ Step Γ env G s G' s'

/-- the tree t does what f says -/
noncomputable def Sat {δ β : Type} (B : Base) (n : Nat) (Γ : Ctx) (rel : Gh → δ → β → Prop) (t : Env → Sem β) (f : St → (δ → St → Prop) → Prop) : Prop :=
  ∀ (A : Around) (env : Env) (G : Gh) (st : St) (s : Shared) (Q : δ → St → Prop), Room n A → Inv B Γ env G st s → f st Q →
    W (model B.prog B.w) A (t env) (Out B Γ env G s rel Q) s

noncomputable def notStar : Expr → Bool
  | .Starred _ _ => false
  | _ => true
theorem star_cons {e : Expr} (h : notStar e = true) (es : List Expr) (env : Env) : starEach (e :: es) env = (false, eval e env) :: starEach es env := by
  cases e <;> first | rfl | (cases h)
theorem star_plain : ∀ {es : List Expr} (_ : es.all notStar = true) (env : Env), (starEach es env).any (·.1) = false
  | [], _, _ => rfl
  | e :: es, h, env => by
    rw [List.all_cons, Bool.and_eq_true] at h
    rw [star_cons h.1, List.any_cons, star_plain h.2]
    rfl

structure Ev (B : Base) (n : Nat) (Γ : Ctx) (e : Expr) (f : Sm) : Prop where
  sat : Sat B n Γ Val (fun env => eval e env) f
structure Tst (B : Base) (n : Nat) (Γ : Ctx) (e : Expr) (f : Ts) : Prop where
  sat : Sat B n Γ relB (fun env => isTrue e env (eval e env)) f
structure Evs (B : Base) (n : Nat) (Γ : Ctx) (es : List Expr) (f : Ls) : Prop where
  sat : ∀ pos, Sat B n Γ Vals (fun env => spliced (backTo pos (starEach es env))) f
structure Ex (B : Base) (n : Nat) (Γ : Ctx) (c : Stmt) (f : Sx) : Prop where
  sat : Sat B n Γ relF (fun env => exec c env) f
structure ExL (B : Base) (n : Nat) (Γ : Ctx) (cs : List Stmt) (f : Sx) : Prop where
  sat : Sat B n Γ relF (fun env => execs cs env) f

section
variable {B : Base} {n : Nat} {Γ : Ctx} {env : Env} {G G' : Gh} {st : St} {s s' : Shared} {A : Around}

theorem Out.from {δ β : Type} {rel : Gh → δ → β → Prop} {Q : δ → St → Prop} {v : β} {s'' : Shared} (S : Step Γ env G s G' s') (h : Out B Γ env G' s' rel Q v s'') : Out B Γ env G s rel Q v s'' := by
  obtain ⟨d, st', G₂, h1, h2, h3, h4⟩ := h
  exact ⟨d, st', G₂, h1, h2, h3, S.trans h4⟩
theorem wp_from {δ β : Type} {rel : Gh → δ → β → Prop} {Q : δ → St → Prop} {t : Sem β} {M : Model} {s'' : Shared} (S : Step Γ env G s G' s') (h : W M A t (Out B Γ env G' s' rel Q) s'') :
    W M A t (Out B Γ env G s rel Q) s'' := W.mono h (fun _ _ h => Out.from S h)

theorem out {δ β : Type} {rel : Gh → δ → β → Prop} {Q : δ → St → Prop} {v : β} {d : δ} (hq : Q d st) (hr : rel G d v) (I : Inv B Γ env G st s) : Out B Γ env G s rel Q v s := ⟨d, st, G, hq, hr, I, .refl G s⟩
theorem outT {δ β : Type} {rel : Gh → δ → β → Prop} {Q : δ → St → Prop} {v : β} {d : δ} {tk : Nat} (hq : Q d st) (hr : rel G d v) (I : Inv B Γ env G st s) : Out B Γ env G s rel Q v { s with toks := tk } := ⟨d, st, G, hq, hr, I.toks, .toks⟩
theorem outK {δ β : Type} {rel : Gh → δ → β → Prop} {Q : δ → St → Prop} {v : β} {d : δ} {h' : Heap} {tk : Nat} (hq : Q d st) (hr : rel G d v) (I : Inv B Γ env G st s) (hk : ∀ b o, s.heap.get? b = some o → h'.get? b = some o) :
    Out B Γ env G s rel Q v { s with heap := h', toks := tk } := ⟨d, st, G, hq, hr, I.keeps hk, .keeps hk⟩

/-- one tree behind another -/
theorem wp_then {δ β γ ε : Type} {rel : Gh → δ → β → Prop} {rel' : Gh → γ → ε → Prop} {Q : δ → St → Prop} {Q' : γ → St → Prop} {t : Sem β} {k : β → Sem ε} {M : Model}
    (h : W M A t (Out B Γ env G s rel Q) s)
    (hk : ∀ d st' G' v s', Q d st' → rel G' d v → Inv B Γ env G' st' s' → Step Γ env G s G' s' → W M A (k v) (Out B Γ env G' s' rel' Q') s') :
    W M A t (fun v s' => W M A (k v) (Out B Γ env G s rel' Q') s') s :=
  W.mono h (fun v s' ⟨d, st', G', h1, h2, h3, h4⟩ => wp_from h4 (hk d st' G' v s' h1 h2 h3 h4))

theorem Inv.kindOf (I : Inv B Γ env G st s) (x : Str) : env.kindOf x = Γ.names.lookup x := by unfold Env.kindOf; rw [I.names]
theorem ok_var (h : Γ.ok = true) {i : Nat} {x : Str} {c : Bool} (e : Γ.vars[i]? = some (some (x, c))) : Γ.names.lookup x = some (if c then .cell else .local) ∧ (x == ("__debug__" : Str)) = false := by
  unfold Ctx.ok at h
  simp only [Bool.and_eq_true, List.all_eq_true] at h
  have := h.1.1 _ (List.mem_of_getElem? e)
  simp only [Bool.and_eq_true, beq_iff_eq, Bool.not_eq_true'] at this
  exact this
theorem ok_glob (h : Γ.ok = true) {i : Nat} {x : Str} (e : Γ.globs[i]? = some x) : Γ.names.lookup x = some .globalImplicit ∧ (x == ("__debug__" : Str)) = false := by
  unfold Ctx.ok at h
  simp only [Bool.and_eq_true, List.all_eq_true] at h
  have := h.2 _ (List.mem_of_getElem? e)
  simp only [beq_iff_eq, Bool.not_eq_true'] at this
  exact this

/-- a name is read: the very value that stands for the variable -/
theorem load_var {i : Nat} {x : Str} {c : Bool} {d : V} {Q : Value → Shared → Prop} {M : Model} {E : Value → Shared → Prop} (I : Inv B Γ env G st s) (hx : Γ.vars[i]? = some (some (x, c))) (hd : st.loc[i]? = some (some d))
    (h : ∀ v, Val G d v → Q v s) : wpAny M A (loadName env x) Q E s := by
  obtain ⟨m, cm, h1, h2, h3⟩ := I.ns
  obtain ⟨v, hv, ha, hb⟩ := h3 i x c d hx hd
  have hk := (ok_var I.ok hx).1
  rw [← I.kindOf] at hk
  cases c with
  | false => exact wpAny_loadName_local I.kind (by simpa using hk) h1 (ha rfl) (h v hv)
  | true =>
    obtain ⟨c, hc⟩ := I.cells i x hx
    exact wpAny_loadName_cell I.kind (by simpa using hk) hc (hb rfl ▸ h2 x c hc) (h v hv)

theorem glob_ns (I : Inv B Γ env G st s) {a : Addr} {m} (h : B.H.Ns a m) : s.heap.Ns a m := h.keeps fun b o e => I.known b o (I.base b o e)

theorem load_glob {i : Nat} {x : Str} {v : Value} {Q : Value → Shared → Prop} {M : Model} {E : Value → Shared → Prop} {pos : Pos} (O : B.Ok) (I : Inv B Γ env G st s) (hx : Γ.globs[i]? = some x) (hv : B.mg x = some v)
    (h : Q v s) : wpAny M A (eval (.Name x pos) env) Q E s := by
  have hk := ok_glob I.ok hx
  refine Calls.Name_function_global I.kind (by rw [I.kindOf]; exact hk.1) (Calls.loadGlobal_global ?_ hv h) hk.2
  rw [I.globals]
  exact glob_ns I O.g
theorem load_blt {i : Nat} {x : Str} {v : Value} {Q : Value → Shared → Prop} {M : Model} {E : Value → Shared → Prop} {pos : Pos} (O : B.Ok) (I : Inv B Γ env G st s) (hx : Γ.globs[i]? = some x) (hm : B.mg x = none) (hv : B.mb x = some v)
    (h : Q v s) : wpAny M A (eval (.Name x pos) env) Q E s := by
  have hk := ok_glob I.ok hx
  refine Calls.Name_function_global I.kind (by rw [I.kindOf]; exact hk.1) (Calls.loadGlobal_builtin ?_ hm ?_ hv h) hk.2
  · rw [I.globals]; exact glob_ns I O.g
  · rw [I.builtins]; exact glob_ns I O.b

-- names, constants
noncomputable def rd (i : Nat) : Sm := fun st Q => match st.loc[i]? with
  | some (some .own) => False
  | some (some d) => Q d st
  | _ => False
noncomputable def cst (d : V) : Sm := fun st Q => Q d st

theorem Ev.v (i : Nat) {x : Str} {c : Bool} {pos : Pos} (hx : Γ.vars[i]? = some (some (x, c)) := by rfl) : Ev B n Γ (.Name x pos) (rd i) := by
  refine ⟨?_⟩
  intro A env G st s Q hA I hf
  unfold rd at hf
  split at hf
  · exact hf.elim
  · rename_i d _ e
    exact W.any (wpAny_Name (load_var I hx e fun v hv => out hf hv I) (ok_var I.ok hx).2)
  · exact hf.elim
theorem Ev.i (i : Int) {k : Nat} {pos : Pos} : Ev B n Γ (.Constant (.int i) k pos) (cst (.int i)) := by
  refine ⟨?_⟩
  intro A env G st s Q hA I hf
  exact W.any (wpAny_Constant_int (outT hf (by simp [Val]) I))
theorem Ev.byt {b : List UInt8} {k : Nat} {pos : Pos} : Ev B n Γ (.Constant (.bytes b) k pos) (cst (.byt b)) := by
  refine ⟨?_⟩
  intro A env G st s Q hA I hf
  exact W.any (Constant_bytes (outT hf (by simp [Val]) I))
theorem Ev.none {k : Nat} {pos : Pos} : Ev B n Γ (.Constant .none k pos) (cst .none) := by
  refine ⟨?_⟩
  intro A env G st s Q hA I hf
  exact W.any (Constant_none (out hf (by simp [Val]) I))
theorem Ev.bool (b : Bool) {k : Nat} {pos : Pos} : Ev B n Γ (.Constant (.bool b) k pos) (cst (.bool b)) := by
  refine ⟨?_⟩
  intro A env G st s Q hA I hf
  exact W.any (Constant_bool (out hf (by simp [Val]) I))

noncomputable def ite' (t : Ts) (f g : Sm) : Sm := fun st Q => t st fun b st₁ => match b with | true => f st₁ Q | false => g st₁ Q
theorem Ev.ite {t b o : Expr} {pos : Pos} {ft : Ts} {fb fo : Sm} (ht : Tst B n Γ t ft) (hb : Ev B n Γ b fb) (ho : Ev B n Γ o fo) : Ev B n Γ (.IfExp t b o pos) (ite' ft fb fo) := by
  refine ⟨?_⟩
  intro A env G st s Q hA I hf
  refine C.IfE (W.mono (ht.1 A env G st s _ hA I hf) (fun c s₁ ⟨d, st₁, G₁, h1, h2, h3, h4⟩ => ?_))
  cases h2
  cases c with
  | true => exact wp_from h4 (hb.1 A env G₁ st₁ s₁ Q hA h3 h1)
  | false => exact wp_from h4 (ho.1 A env G₁ st₁ s₁ Q hA h3 h1)

-- lists of trees
noncomputable def nil' : Ls := fun st Q => Q [] st
noncomputable def cons' (f : Sm) (g : Ls) : Ls := fun st Q => f st fun d st₁ => g st₁ fun ds st₂ => Q (d :: ds) st₂
theorem Evs.nil : Evs B n Γ [] nil' := by
  refine ⟨?_⟩
  intro pos A env G st s Q hA I hf
  exact C.spliced_nil (out hf (by simp [Vals]) I)
theorem Evs.cons {e : Expr} {es : List Expr} {f : Sm} {g : Ls} (he : Ev B n Γ e f) (hes : Evs B n Γ es g) (hs : notStar e = true := by rfl) :
    Evs B n Γ (e :: es) (cons' f g) := by
  refine ⟨?_⟩
  intro pos A env G st s Q hA I hf
  show W _ _ (spliced (backTo pos (starEach (e :: es) env))) _ _
  rw [star_cons hs]
  refine C.spliced_cons (W.mono (he.1 A env G st s _ hA I hf) (fun v s₁ ⟨d, st₁, G₁, h1, h2, h3, h4⟩ => ?_))
  refine W.mono (hes.1 pos A env G₁ st₁ s₁ _ hA h3 h1) (fun vs s₂ ⟨ds, st₂, G₂, k1, k2, k3, k4⟩ => ?_)
  exact ⟨d :: ds, st₂, G₂, k1, by simp only [Vals]; exact ⟨v, vs, rfl, h2.mono k4.le, k2⟩, k3, h4.trans k4⟩

theorem Vals.length : ∀ {ds : List V} {vs : List Value}, Vals G ds vs → vs.length = ds.length
  | [], _, h => by simp only [Vals] at h; rw [h]; rfl
  | d :: ds, _, h => by
    simp only [Vals] at h
    obtain ⟨v, r, rfl, _, h2⟩ := h
    simp [Vals.length h2]

noncomputable def lim (ds : List V) : Prop := ds.length ≤ 1000000
noncomputable def tup' (g : Ls) : Sm := fun st Q => g st fun ds st₁ => lim ds ∧ Q (.tup ds) st₁
noncomputable def lst' (g : Ls) : Sm := fun st Q => g st fun ds st₁ => lim ds ∧ Q (.lst ds) st₁
theorem line_le {k : Nat} (h : k ≤ 1000000) : k ≤ sizeLine := by rw [sizeLine_eq]; lia

theorem new_tuple {Q : V → St → Prop} {M : Model} {vs : List Value} {ds : List V} (I : Inv B Γ env G st s) (hv : Vals G ds vs) (hl : ds.length ≤ 1000000) (hq : Q (.tup ds) st) :
    W M A (newTuple vs) (Out B Γ env G s Val Q) s := by
  obtain ⟨I', S'⟩ := I.alloc (o := { cls := .type "tuple", data := .seq vs.toArray }) (tk := s.toks) rfl
  refine W.any (wpAny_newObj_type ?_ (by show vs.toArray.size ≤ sizeLine; rw [List.size_toArray, hv.length]; exact line_le hl))
  exact ⟨_, st, _, hq, by simp only [Val]; exact ⟨_, vs.toArray, 0, rfl, know_at, by simpa using hv.mono S'.le⟩, I', S'⟩
theorem new_list {Q : V → St → Prop} {M : Model} {vs : List Value} {ds : List V} (I : Inv B Γ env G st s) (hv : Vals G ds vs) (hl : ds.length ≤ 1000000) (hq : Q (.lst ds) st) :
    W M A (newList vs) (Out B Γ env G s Val Q) s := by
  obtain ⟨I', S'⟩ := I.alloc (o := { cls := .type "list", data := .seq vs.toArray }) (tk := s.toks) rfl
  refine W.any (wpAny_newObj_type ?_ (by show vs.toArray.size ≤ sizeLine; rw [List.size_toArray, hv.length]; exact line_le hl))
  exact ⟨_, st, _, hq, by simp only [Val]; exact ⟨_, _, vs.toArray, 0, rfl, know_at, rfl, rfl, by simpa using hv.mono S'.le⟩, I', S'⟩

theorem Ev.tup {es : List Expr} {k : Nat} {pos : Pos} {g : Ls} (h : Evs B n Γ es g) : Ev B n Γ (.Tuple es k pos) (tup' g) := by
  refine ⟨?_⟩
  intro A env G st s Q hA I hf
  exact C.TupE (wp_then (h.1 pos A env G st s _ hA I hf) fun ds st' G' vs s' h1 h2 h3 h4 => new_tuple h3 h2 h1.1 h1.2)
theorem Ev.lst {es : List Expr} {pos : Pos} {g : Ls} (h : Evs B n Γ es g) : Ev B n Γ (.List es pos) (lst' g) := by
  refine ⟨?_⟩
  intro A env G st s Q hA I hf
  exact C.ListE (wp_then (h.1 pos A env G st s _ hA I hf) fun ds st' G' vs s' h1 h2 h3 h4 => new_list h3 h2 h1.1 h1.2)

-- truth
noncomputable def vB (f : Sm) : Ts := fun st Q => f st fun d st₁ => match d with | .bool b => Q b st₁ | _ => False
theorem Tst.val {e : Expr} {f : Sm} (h : Ev B n Γ e f) (he : ∀ env whole, isTrue e env whole = (do let v ← whole; standAt e.pos; holding [v] (truthy v)) := by intro _ _; rfl) : Tst B n Γ e (vB f) := by
  refine ⟨?_⟩
  intro A env G st s Q hA I hf
  refine C.tVal (W.mono (h.1 A env G st s _ hA I hf) (fun v s₁ ⟨d, st₁, G₁, h1, h2, h3, h4⟩ => ?_)) (he env _)
  cases d <;> first | exact False.elim h1 | skip
  rename_i b
  simp only [Val] at h2
  subst h2
  exact W.any (wpAny_truthy_bool ⟨b, st₁, G₁, h1, rfl, h3, h4⟩)
noncomputable def notT (t : Ts) : Ts := fun st Q => t st fun b st₁ => Q (!b) st₁
theorem Tst.not {e : Expr} {pos : Pos} {t : Ts} (h : Tst B n Γ e t) : Tst B n Γ (.UnaryOp .Not e pos) (notT t) := by
  refine ⟨?_⟩
  intro A env G st s Q hA I hf
  refine C.tNot (W.mono (h.1 A env G st s _ hA I hf) (fun v s₁ ⟨d, st₁, G₁, h1, h2, h3, h4⟩ => ?_))
  cases h2
  exact ⟨!v, st₁, G₁, h1, rfl, h3, h4⟩
noncomputable def andT (t u : Ts) : Ts := fun st Q => t st fun b st₁ => match b with | true => u st₁ Q | false => Q false st₁
noncomputable def orT (t u : Ts) : Ts := fun st Q => t st fun b st₁ => match b with | true => Q true st₁ | false => u st₁ Q
noncomputable def tt (b : Bool) : Ts := fun st Q => Q b st
theorem Tst.and0 {pos : Pos} : Tst B n Γ (.BoolOp .And [] pos) (tt true) := by
  refine ⟨?_⟩
  intro A env G st s Q hA I hf
  exact C.tAnd0 ⟨true, st, G, hf, rfl, I, .refl G s⟩
theorem Tst.or0 {pos : Pos} : Tst B n Γ (.BoolOp .Or [] pos) (tt false) := by
  refine ⟨?_⟩
  intro A env G st s Q hA I hf
  exact C.tOr0 ⟨false, st, G, hf, rfl, I, .refl G s⟩
theorem isTrue_whole {o : BoolOp} {es : List Expr} {pos : Pos} {env : Env} {w w' : Sem Value} : isTrue (.BoolOp o es pos) env w = isTrue (.BoolOp o es pos) env w' := rfl
theorem Tst.and {e : Expr} {es : List Expr} {pos : Pos} {t u : Ts} (h : Tst B n Γ e t) (hs : Tst B n Γ (.BoolOp .And es pos) u) : Tst B n Γ (.BoolOp .And (e :: es) pos) (andT t u) := by
  refine ⟨?_⟩
  intro A env G st s Q hA I hf
  refine C.tAnd (W.mono (h.1 A env G st s _ hA I hf) (fun v s₁ ⟨d, st₁, G₁, h1, h2, h3, h4⟩ => ?_))
  cases h2
  cases v with
  | true =>
    show W _ _ (isTrue (.BoolOp .And es pos) env _) _ _
    rw [isTrue_whole (w' := eval (.BoolOp .And es pos) env)]
    exact wp_from h4 (hs.1 A env G₁ st₁ s₁ Q hA h3 h1)
  | false => exact ⟨false, st₁, G₁, h1, rfl, h3, h4⟩
theorem Tst.or {e : Expr} {es : List Expr} {pos : Pos} {t u : Ts} (h : Tst B n Γ e t) (hs : Tst B n Γ (.BoolOp .Or es pos) u) : Tst B n Γ (.BoolOp .Or (e :: es) pos) (orT t u) := by
  refine ⟨?_⟩
  intro A env G st s Q hA I hf
  refine C.tOr (W.mono (h.1 A env G st s _ hA I hf) (fun v s₁ ⟨d, st₁, G₁, h1, h2, h3, h4⟩ => ?_))
  cases h2
  cases v with
  | false =>
    show W _ _ (isTrue (.BoolOp .Or es pos) env _) _ _
    rw [isTrue_whole (w' := eval (.BoolOp .Or es pos) env)]
    exact wp_from h4 (hs.1 A env G₁ st₁ s₁ Q hA h3 h1)
  | true => exact ⟨true, st₁, G₁, h1, rfl, h3, h4⟩
noncomputable def iteT (t u o : Ts) : Ts := fun st Q => t st fun b st₁ => match b with | true => u st₁ Q | false => o st₁ Q
theorem Tst.ite {t b o : Expr} {pos : Pos} {ft fb fo : Ts} (ht : Tst B n Γ t ft) (hb : Tst B n Γ b fb) (ho : Tst B n Γ o fo) : Tst B n Γ (.IfExp t b o pos) (iteT ft fb fo) := by
  refine ⟨?_⟩
  intro A env G st s Q hA I hf
  refine C.tIf (W.mono (ht.1 A env G st s _ hA I hf) (fun c s₁ ⟨d, st₁, G₁, h1, h2, h3, h4⟩ => ?_))
  cases h2
  cases c with
  | true => exact wp_from h4 (hb.1 A env G₁ st₁ s₁ Q hA h3 h1)
  | false => exact wp_from h4 (ho.1 A env G₁ st₁ s₁ Q hA h3 h1)

-- and, or, not as values: bools alone
noncomputable def vOf (t : Ts) : Sm := fun st Q => t st fun b st₁ => Q (.bool b) st₁
noncomputable def andE (f g : Sm) : Sm := fun st Q => f st fun d st₁ => match d with | .bool true => g st₁ Q | .bool false => Q (.bool false) st₁ | _ => False
noncomputable def orE (f g : Sm) : Sm := fun st Q => f st fun d st₁ => match d with | .bool true => Q (.bool true) st₁ | .bool false => g st₁ Q | _ => False
theorem Ev.one {o : BoolOp} {e : Expr} {pos : Pos} {f : Sm} (h : Ev B n Γ e f) : Ev B n Γ (.BoolOp o [e] pos) f := ⟨h.1⟩
theorem Ev.and {e e₂ : Expr} {es : List Expr} {pos : Pos} {f g : Sm} (h : Ev B n Γ e f) (hs : Ev B n Γ (.BoolOp .And (e₂ :: es) pos) g) : Ev B n Γ (.BoolOp .And (e :: e₂ :: es) pos) (andE f g) := by
  refine ⟨?_⟩
  intro A env G st s Q hA I hf
  refine C.AndE (W.mono (h.1 A env G st s _ hA I hf) (fun v s₁ ⟨d, st₁, G₁, h1, h2, h3, h4⟩ => ?_))
  cases d <;> first | exact False.elim h1 | skip
  rename_i b
  simp only [Val] at h2
  subst h2
  refine W.any (wpAny_truthy_bool ?_)
  cases b with
  | true => exact wp_from h4 (hs.1 A env G₁ st₁ s₁ Q hA h3 h1)
  | false => exact ⟨.bool false, st₁, G₁, h1, by simp [Val], h3, h4⟩
theorem Ev.or {e e₂ : Expr} {es : List Expr} {pos : Pos} {f g : Sm} (h : Ev B n Γ e f) (hs : Ev B n Γ (.BoolOp .Or (e₂ :: es) pos) g) : Ev B n Γ (.BoolOp .Or (e :: e₂ :: es) pos) (orE f g) := by
  refine ⟨?_⟩
  intro A env G st s Q hA I hf
  refine C.OrE (W.mono (h.1 A env G st s _ hA I hf) (fun v s₁ ⟨d, st₁, G₁, h1, h2, h3, h4⟩ => ?_))
  cases d <;> first | exact False.elim h1 | skip
  rename_i b
  simp only [Val] at h2
  subst h2
  refine W.any (wpAny_truthy_bool ?_)
  cases b with
  | true => exact ⟨.bool true, st₁, G₁, h1, by simp [Val], h3, h4⟩
  | false => exact wp_from h4 (hs.1 A env G₁ st₁ s₁ Q hA h3 h1)
noncomputable def notE (f : Sm) : Sm := fun st Q => f st fun d st₁ => match d with | .bool b => Q (.bool (!b)) st₁ | _ => False
theorem Ev.not {e : Expr} {pos : Pos} {f : Sm} (h : Ev B n Γ e f) : Ev B n Γ (.UnaryOp .Not e pos) (notE f) := by
  refine ⟨?_⟩
  intro A env G st s Q hA I hf
  refine C.UnOp (W.mono (h.1 A env G st s _ hA I hf) (fun v s₁ ⟨d, st₁, G₁, h1, h2, h3, h4⟩ => ?_))
  cases d <;> first | exact False.elim h1 | skip
  rename_i b
  simp only [Val] at h2
  subst h2
  exact W.any (not_of (wpAny_truthy_bool ⟨.bool (!b), st₁, G₁, h1, by simp [Val], h3, h4⟩))

-- statements
noncomputable def skip : Sx := fun st Q => Q .next st
noncomputable def seq (f g : Sx) : Sx := fun st Q => f st fun fl st₁ => match fl with | .next => g st₁ Q | .ret d => Q (.ret d) st₁
theorem ExL.nil : ExL B n Γ [] skip := by
  refine ⟨?_⟩
  intro A env G st s Q hA I hf
  exact C.execs_nil ⟨.next, st, G, hf, rfl, I, .refl G s⟩
theorem ExL.cons {c : Stmt} {cs : List Stmt} {f g : Sx} (h : Ex B n Γ c f) (hs : ExL B n Γ cs g) : ExL B n Γ (c :: cs) (seq f g) := by
  refine ⟨?_⟩
  intro A env G st s Q hA I hf
  refine C.execs_cons (W.mono (h.1 A env G st s _ hA I hf) (fun v s₁ ⟨d, st₁, G₁, h1, h2, h3, h4⟩ => ?_))
  cases d with
  | next =>
    cases (show v = .next from h2)
    exact wp_from h4 (hs.1 A env G₁ st₁ s₁ Q hA h3 h1)
  | ret d =>
    obtain ⟨v', rfl, hv⟩ := h2
    exact ⟨.ret d, st₁, G₁, h1, ⟨v', rfl, hv⟩, h3, h4⟩
noncomputable def iff' (t : Ts) (f g : Sx) : Sx := fun st Q => t st fun b st₁ => match b with | true => f st₁ Q | false => g st₁ Q
theorem Ex.ite {t : Expr} {b o : List Stmt} {pos : Pos} {ft : Ts} {fb fo : Sx} (ht : Tst B n Γ t ft) (hb : ExL B n Γ b fb) (ho : ExL B n Γ o fo) : Ex B n Γ (.If t b o pos) (iff' ft fb fo) := by
  refine ⟨?_⟩
  intro A env G st s Q hA I hf
  refine C.IfS (W.mono (ht.1 A env G st s _ hA I hf) (fun c s₁ ⟨d, st₁, G₁, h1, h2, h3, h4⟩ => ?_))
  cases h2
  cases c with
  | true => exact wp_from h4 (hb.1 A env G₁ st₁ s₁ Q hA h3 h1)
  | false => exact wp_from h4 (ho.1 A env G₁ st₁ s₁ Q hA h3 h1)
noncomputable def ret' (f : Sm) : Sx := fun st Q => f st fun d st₁ => Q (.ret d) st₁
theorem Ex.ret {e : Expr} {pos : Pos} {f : Sm} (h : Ev B n Γ e f) : Ex B n Γ (.Return (some e) pos) (ret' f) := by
  refine ⟨?_⟩
  intro A env G st s Q hA I hf
  refine C.RetS (W.mono (h.1 A env G st s _ hA I hf) (fun v s₁ ⟨d, st₁, G₁, h1, h2, h3, h4⟩ => ?_))
  exact ⟨.ret d, st₁, G₁, h1, ⟨v, rfl, h2⟩, h3, h4⟩
/-- a statement that the law never reaches -/
noncomputable def never : Sx := fun _ _ => False
theorem Ex.never {c : Stmt} : Ex B n Γ c never := ⟨fun _ _ _ _ _ _ _ _ hf => hf.elim⟩

noncomputable def whileN (t : Ts) (b : Sx) : Nat → Sx
  | 0 => fun _ _ => False
  | k + 1 => fun st Q => t st fun c st₁ => match c with
    | true => b st₁ fun fl st₂ => match fl with
      | .next => whileN t b k st₂ Q
      | .ret d => Q (.ret d) st₂
    | false => Q .next st₁
noncomputable def while' (t : Ts) (b : Sx) : Sx := fun st Q => ∃ k, whileN t b k st Q
theorem Ex.while {t : Expr} {b : List Stmt} {pos : Pos} {ft : Ts} {fb : Sx} (ht : Tst B n Γ t ft) (hb : ExL B n Γ b fb) : Ex B n Γ (.While t b [] pos) (while' ft fb) := by
  refine ⟨?_⟩
  intro A env G st s Q hA I hf
  obtain ⟨k, hf⟩ := hf
  refine C.WhileS (fun j s₁ => ∃ st₁ G₁, whileN ft fb j st₁ Q ∧ Inv B Γ env G₁ st₁ s₁ ∧ Step Γ env G s G₁ s₁) ?_ k ⟨st, G, hf, I, .refl G s⟩
  rintro j s₁ ⟨st₁, G₁, hw, I₁, S₁⟩
  cases j with
  | zero => exact hw.elim
  | succ j =>
    refine W.mono (ht.1 A env G₁ st₁ s₁ _ hA I₁ hw) (fun c s₂ ⟨d, st₂, G₂, h1, h2, h3, h4⟩ => ?_)
    cases h2
    cases c with
    | true =>
      refine W.mono (hb.1 A env G₂ st₂ s₂ _ hA h3 h1) (fun v s₃ ⟨d, st₃, G₃, k1, k2, k3, k4⟩ => ?_)
      cases d with
      | next =>
        cases (show v = .next from k2)
        exact ⟨j, Nat.lt_succ_self j, st₃, G₃, k1, k3, (S₁.trans h4).trans k4⟩
      | ret d =>
        obtain ⟨v', rfl, hv⟩ := k2
        exact ⟨.ret d, st₃, G₃, k1, ⟨v', rfl, hv⟩, k3, (S₁.trans h4).trans k4⟩
    | false => exact ⟨.next, st₂, G₂, h1, rfl, h3, S₁.trans h4⟩
end
end

section
section
variable {B : Base} {n : Nat} {Γ : Ctx} {env : Env} {G G' : Gh} {st : St} {s s' : Shared} {A : Around}

theorem Inv.rebind (I : Inv B Γ env G st s) {j : Addr} (hj : j = env.locals ∨ ∃ x, env.cells.lookup x = some j) (hjK : G.K j = none) {h' : Heap} {tk : Nat} {loc' : List (Option V)}
    (hk : ∀ b o, b ≠ j → s.heap.get? b = some o → h'.get? b = some o)
    (ns' : ∃ m cm : Str → Option Value, h'.Ns env.locals m ∧ (∀ x c, env.cells.lookup x = some c → h'.IsCell c (cm x)) ∧
      (∀ (i : Nat) (x : Str) (c : Bool) (d : V), Γ.vars[i]? = some (some (x, c)) → loc'[i]? = some (some d) → ∃ v, Val G d v ∧ (c = false → m x = some v) ∧ (c = true → cm x = some v))) :
    Inv B Γ env G { st with loc := loc' } { s with heap := h', toks := tk } := by
  have ho : ∀ a, G.oa = some a → a ≠ j := fun a e => by
    rcases hj with rfl | ⟨x, hx⟩
    · exact (I.oL a e).1
    · exact Ne.symm ((I.oL a e).2 x j hx)
  have hd : ∀ p, G.dk = some p → p.1 ≠ j ∧ p.2 ≠ j := fun p e => by
    obtain ⟨d1, d2, _, d4, _⟩ := I.dL p e
    rcases hj with rfl | ⟨x, hx⟩
    · exact ⟨d1, d2⟩
    · exact ⟨Ne.symm (d4 x j hx).1, Ne.symm (d4 x j hx).2⟩
  exact {
    kind := I.kind
    names := I.names
    globals := I.globals
    builtins := I.builtins
    base := I.base
    known := fun a o e => hk a o (fun x => by rw [x, hjK] at e; cases e) (I.known a o e)
    KL := I.KL
    Kc := I.Kc
    Ko := I.Ko
    Kd := I.Kd
    ns := ns'
    ok := I.ok
    cells := I.cells
    cap := I.cap
    cL := I.cL
    oL := I.oL
    dL := I.dL
    own := I.own.mono (.refl _) I.own.none fun a o e1 e2 => hk a o (ho a e1) e2
    oex := fun a e => by
      have h := I.oex a e
      cases hq : s.heap.get? a with
      | none => exact absurd hq h
      | some o =>
        show h'.get? a ≠ none
        rw [hk a o (ho a e) hq]
        exact fun x => nomatch x
    deck := I.deck.mono (.refl _) I.deck.none fun p a o e u e2 => hk a o (by rcases u with rfl | rfl; exact (hd p e).1; exact (hd p e).2) e2 }

theorem names_inj : ∀ {l : List (Option (Str × Bool))}, (l.filterMap (·.map (·.1))).Nodup → ∀ {i j : Nat} {x : Str} {c c' : Bool}, l[i]? = some (some (x, c)) → l[j]? = some (some (x, c')) → i = j
  | [], _, i, _, _, _, _, h, _ => by simp at h
  | none :: r, hn, i, j, x, c, c', hi, hj => by
    cases i with
    | zero => simp at hi
    | succ i =>
      cases j with
      | zero => simp at hj
      | succ j =>
        simp only [List.getElem?_cons_succ] at hi hj
        rw [names_inj (l := r) (by simpa using hn) hi hj]
  | some (y, e) :: r, hn, i, j, x, c, c', hi, hj => by
    have hn' : y ∉ r.filterMap (·.map (·.1)) ∧ (r.filterMap (·.map (·.1))).Nodup := by simpa using hn
    have mem : ∀ {k : Nat} {c : Bool}, r[k]? = some (some (x, c)) → x ∈ r.filterMap (·.map (·.1)) := fun {k} {c} hk => List.mem_filterMap.mpr ⟨some (x, c), List.mem_of_getElem? hk, rfl⟩
    cases i with
    | zero =>
      simp only [List.getElem?_cons_zero, Option.some.injEq, Prod.mk.injEq] at hi
      cases j with
      | zero => rfl
      | succ j =>
        simp only [List.getElem?_cons_succ] at hj
        exact absurd (hi.1 ▸ mem hj) hn'.1
    | succ i =>
      simp only [List.getElem?_cons_succ] at hi
      cases j with
      | zero =>
        simp only [List.getElem?_cons_zero, Option.some.injEq, Prod.mk.injEq] at hj
        exact absurd (hj.1 ▸ mem hi) hn'.1
      | succ j =>
        simp only [List.getElem?_cons_succ] at hj
        rw [names_inj hn'.2 hi hj]
theorem ok_inj (h : Γ.ok = true) {i j : Nat} {x : Str} {c c' : Bool} (hi : Γ.vars[i]? = some (some (x, c))) (hj : Γ.vars[j]? = some (some (x, c'))) : i = j := by
  unfold Ctx.ok at h
  simp only [Bool.and_eq_true, decide_eq_true_eq] at h
  exact names_inj h.1.2 hi hj

noncomputable def St.set (st : St) (i : Nat) (d : V) : St := { st with loc := st.loc.set i (some d) }

theorem set_rel (I : Inv B Γ env G st s) {i : Nat} {x : Str} {c : Bool} (hx : Γ.vars[i]? = some (some (x, c))) {d : V} {v : Value} (hv : Val G d v) {m cm m' cm' : Str → Option Value}
    (h3 : ∀ (i : Nat) (x : Str) (c : Bool) (d : V), Γ.vars[i]? = some (some (x, c)) → st.loc[i]? = some (some d) → ∃ v, Val G d v ∧ (c = false → m x = some v) ∧ (c = true → cm x = some v))
    (h1 : c = false → m' x = some v) (h2 : c = true → cm' x = some v) (hm : ∀ y, y ≠ x → m' y = m y) (hcm : ∀ y, y ≠ x → cm' y = cm y) :
    ∀ (j : Nat) (y : Str) (c : Bool) (d' : V), Γ.vars[j]? = some (some (y, c)) → (st.loc.set i (some d))[j]? = some (some d') → ∃ v, Val G d' v ∧ (c = false → m' y = some v) ∧ (c = true → cm' y = some v) := by
  intro j y c' d' hj hd
  rw [List.getElem?_set] at hd
  by_cases hij : i = j
  · subst hij
    rw [if_pos rfl] at hd
    split at hd
    · cases hd
      rw [hx] at hj
      cases hj
      exact ⟨v, hv, h1, h2⟩
    · cases hd
  · rw [if_neg hij] at hd
    have hyx : y ≠ x := fun e => hij (ok_inj I.ok hx (e ▸ hj))
    obtain ⟨v', k1, k2, k3⟩ := h3 j y c' d' hj hd
    exact ⟨v', k1, fun e => by rw [hm y hyx]; exact k2 e, fun e => by rw [hcm y hyx]; exact k3 e⟩

theorem store_var {i : Nat} {x : Str} {c : Bool} {d : V} {v : Value} {Q : Unit → Shared → Prop} {M : Model} {E : Value → Shared → Prop} (I : Inv B Γ env G st s) (hx : Γ.vars[i]? = some (some (x, c))) (hc : c = true → Γ.fn = true) (hv : Val G d v)
    (h : ∀ s', Inv B Γ env G (st.set i d) s' → Step Γ env G s G s' → Q () s') : wpAny M A (storeName env x v) Q E s := by
  obtain ⟨m, cm, h1, h2, h3⟩ := I.ns
  have hk := (ok_var I.ok hx).1
  rw [← I.kindOf] at hk
  cases c with
  | false =>
    refine wpAny_storeName_local (by simpa using hk) h1 (fun h' hn' hs' => ?_) (by rw [I.kind]; rfl)
    have keep : ∀ b o, b ≠ env.locals → s.heap.get? b = some o → h'.get? b = some o := fun b o hb e => (hs'.2 b hb).trans e
    refine h _ (I.rebind (.inl rfl) I.KL keep ⟨_, cm, hn', fun y c e => ?_, set_rel I hx hv h3 (fun _ => if_pos rfl) (fun e => nomatch e) (fun y hy => if_neg hy) (fun _ _ => rfl)⟩) ?_
    · obtain ⟨o, ho, hd⟩ := h2 y c e
      exact ⟨o, keep c o (I.cL y c e) ho, hd⟩
    · refine (Step.refl G s).chg (.inr (.inl rfl)) keep ?_
      obtain ⟨o, _, _, ho, _⟩ := hn'
      rw [ho]; exact fun x => nomatch x
  | true =>
    obtain ⟨c, hcc⟩ := I.cells i x hx
    refine wpAny_storeName_cell I.kind (by simpa using hk) hcc (h2 x c hcc) (fun h' hc' hs' => ?_)
    have keep : ∀ b o, b ≠ c → s.heap.get? b = some o → h'.get? b = some o := fun b o hb e => (hs'.2 b hb).trans e
    refine h { s with heap := h', toks := s.toks } (I.rebind (.inr ⟨x, hcc⟩) (I.Kc (hc rfl) x c hcc) keep ⟨m, fun y => if y = x then some v else cm y, h1.at' fun o e => keep _ o (Ne.symm (I.cL x c hcc)) e, fun y c' e => ?_,
      set_rel I hx hv h3 (fun e => nomatch e) (fun _ => if_pos rfl) (fun _ _ => rfl) (fun y hy => if_neg hy)⟩) ?_
    · by_cases hy : y = x
      · subst hy
        rw [hcc] at e
        cases e
        show h'.IsCell c (if y = y then some v else cm y)
        rw [if_pos rfl]
        exact hc'
      · show h'.IsCell c' (if y = x then some v else cm y)
        rw [if_neg hy]
        obtain ⟨o, ho, hd⟩ := h2 y c' e
        exact ⟨o, keep c' o (fun q => hy (I.cap y x c (q ▸ e) hcc)) ho, hd⟩
    · refine (Step.refl G s).chg (tk := s.toks) (.inr (.inr (.inl ⟨hc rfl, x, hcc⟩))) keep ?_
      obtain ⟨o, ho, _⟩ := hc'
      rw [ho]; exact fun x => nomatch x

noncomputable def put (i : Nat) (f : Sm) : Sx := fun st Q => f st fun d st₁ => Q .next (st₁.set i d)
theorem Ex.put (i : Nat) {x : Str} {c : Bool} {e : Expr} {p pos : Pos} {f : Sm} (h : Ev B n Γ e f) (hx : Γ.vars[i]? = some (some (x, c)) := by rfl) (hc : c = true → Γ.fn = true := by decide)
    (hs : ∀ env, swapsWith e (some (.Name x p)) pos.line env = pure false := by intro _; rfl) : Ex B n Γ (.Assign [.Name x p] e pos) (put i f) := by
  refine ⟨?_⟩
  intro A env G st s Q hA I hf
  refine C.AssignS (hs env) (W.mono (h.1 A env G st s _ hA I hf) (fun v s₁ ⟨d, st₁, G₁, h1, h2, h3, h4⟩ => ?_))
  refine W.any (store_var h3 hx hc h2 fun s' I' S' => ?_)
  exact ⟨.next, _, G₁, h1, rfl, I', h4.trans S'⟩
end
end

section
section
variable {B : Base} {n : Nat} {Γ : Ctx} {env : Env} {G G' : Gh} {st : St} {s s' : Shared} {A : Around}

noncomputable def binAdd (a b : V) (Q : V → Prop) : Prop :=
  match a, b with
  | .int x, .int y => Q (.int (x + y))
  | .byt x, .byt y => x.length + y.length ≤ 16777216 ∧ Q (.byt (x ++ y))
  | .lst x, .lst y => x.length + y.length ≤ 1000000 ∧ Q (.lst (x ++ y))
  | _, _ => False
noncomputable def binSub (a b : V) (Q : V → Prop) : Prop :=
  match a, b with
  | .int x, .int y => Q (.int (x - y))
  | _, _ => False
noncomputable def binMul (a b : V) (Q : V → Prop) : Prop :=
  match a, b with
  | .int x, .int y => (x.natAbs < 9223372036854775808 ∨ y.natAbs < 9223372036854775808) ∧ Q (.int (x * y))
  | .byt x, .int y => (x ≠ [] ∧ -1048576 ≤ y ∧ y ≤ 1048576 ∧ x.length ≤ 16) ∧ Q (.byt (List.replicate y.toNat x).flatten)
  | _, _ => False
noncomputable def binDiv (a b : V) (Q : V → Prop) : Prop :=
  match a, b with
  | .int x, .int y => y ≠ 0 ∧ y.natAbs < 1073741824 ∧ Q (.int (x.fdiv y))
  | _, _ => False
noncomputable def binMod (a b : V) (Q : V → Prop) : Prop :=
  match a, b with
  | .int x, .int y => y ≠ 0 ∧ Q (.int (x.fmod y))
  | _, _ => False
noncomputable def binAnd (a b : V) (Q : V → Prop) : Prop :=
  match a, b with
  | .int x, .int y => Q (.int (Builtin.bitAnd x y))
  | _, _ => False
noncomputable def binPow (a b : V) (Q : V → Prop) : Prop :=
  match a, b with
  | .int x, .int y => 0 ≤ y ∧ (Builtin.Int.intBits x : Int) * y ≤ 2 ^ 27 ∧ Q (.int (x ^ y.toNat))
  | _, _ => False
noncomputable def binP (op : Operator) (a b : V) (Q : V → Prop) : Prop :=
  match op with
  | .Add => binAdd a b Q
  | .Sub => binSub a b Q
  | .Mult => binMul a b Q
  | .FloorDiv => binDiv a b Q
  | .Mod => binMod a b Q
  | .BitAnd => binAnd a b Q
  | .Pow => binPow a b Q
  | _ => False

theorem mulOk {x y : Int} (h : x.natAbs < 9223372036854775808 ∨ y.natAbs < 9223372036854775808) : IntMulOk x y := by
  have key : ∀ z : Int, z.natAbs < 9223372036854775808 → Builtin.Int.intBits z ≤ 64 := fun z hz => by
    unfold Builtin.Int.intBits
    split
    · exact Nat.zero_le _
    · rename_i h0
      have : z.natAbs.log2 < 63 := (Nat.log2_lt (by simpa using h0)).mpr (by omega)
      omega
  rcases h with h | h
  · exact .of_left (key x h)
  · exact .of_right (key y h)

theorem Vals.append : ∀ {xs ys : List V} {vs ws : List Value}, Vals G xs vs → Vals G ys ws → Vals G (xs ++ ys) (vs ++ ws)
  | [], _, _, _, h, h' => by simp only [Vals] at h; subst h; exact h'
  | x :: xs, ys, _, ws, h, h' => by
    simp only [Vals] at h
    obtain ⟨v, r, rfl, h1, h2⟩ := h
    show Vals G (x :: (xs ++ ys)) (v :: (r ++ ws))
    simp only [Vals]
    exact ⟨v, _, rfl, h1, h2.append h'⟩

theorem bin_ok {op : Operator} {a b : V} {va vb : Value} {Q : V → St → Prop} (I : Inv B Γ env G st s) (ha : Val G a va) (hb : Val G b vb) (hq : binP op a b fun d => Q d st) :
    wpAny (model B.prog B.w) A (binaryOp op va vb) (Out B Γ env G s Val Q) noE s := by
  unfold binP at hq
  split at hq
  · unfold binAdd at hq
    split at hq
    · simp only [Val] at ha hb; obtain ⟨t, rfl⟩ := ha; obtain ⟨u, rfl⟩ := hb
      exact add_int (outT hq (by simp [Val]) I)
    · simp only [Val] at ha hb; obtain ⟨t, rfl⟩ := ha; obtain ⟨u, rfl⟩ := hb
      refine KBy.add_bytes (by simpa using hq.1) fun t' k => ?_
      rw [List.append_toArray]
      exact outT hq.2 (by simp [Val]) I
    · simp only [Val] at ha hb
      obtain ⟨l, ⟨c1, d1, x1, s1⟩, ws, n1, rfl, hl, rfl, rfl, h1⟩ := ha
      obtain ⟨l', ⟨c2, d2, x2, s2⟩, ws', n2, rfl, hl', rfl, rfl, h2⟩ := hb
      have e1 := h1.length
      have e2 := h2.length
      rw [Array.length_toList] at e1 e2
      have g1 := I.known _ _ hl
      have g2 := I.known _ _ hl'
      refine concat_meets ⟨_, g1, rfl⟩ ⟨_, g2, rfl⟩ noFill_list_add seq_list_add PySem.F.slot_list_add PySem.F.entry_list_add (PySem.F.args_list_add_2 _ _) (list_addW l l' ws ws' n1 n2 d1 d2 s1 s2 (by rw [e1, e2]; exact line_le hq.1)) ⟨g1, g2, ?_⟩
      obtain ⟨I', S'⟩ := I.alloc (o := { cls := .type "list", data := .seq (ws ++ ws') }) (tk := s.toks) rfl
      exact ⟨_, st, _, hq.2, by simp only [Val]; exact ⟨_, _, ws ++ ws', 0, rfl, know_at, rfl, rfl, by rw [Array.toList_append]; exact (h1.append h2).mono S'.le⟩, I', S'⟩
    · exact hq.elim
  · unfold binSub at hq
    split at hq
    · simp only [Val] at ha hb; obtain ⟨t, rfl⟩ := ha; obtain ⟨u, rfl⟩ := hb
      exact sub_int' (outT hq (by simp [Val]) I)
    · exact hq.elim
  · unfold binMul at hq
    split at hq
    · simp only [Val] at ha hb; obtain ⟨t, rfl⟩ := ha; obtain ⟨u, rfl⟩ := hb
      exact mul_int (outT hq.2 (by simp [Val]) I) (mulOk hq.1)
    · simp only [Val] at ha hb; obtain ⟨t, rfl⟩ := ha; obtain ⟨u, rfl⟩ := hb
      refine bytes_mul_any hq.1.1 hq.1.2.1 hq.1.2.2.1 hq.1.2.2.2 fun t' k => ?_
      exact outT hq.2 (by simp [Val]) I
    · exact hq.elim
  · unfold binDiv at hq
    split at hq
    · simp only [Val] at ha hb; obtain ⟨t, rfl⟩ := ha; obtain ⟨u, rfl⟩ := hb
      exact floordiv_int hq.1 (outT hq.2.2 (by simp [Val]) I) (.inl (PyProof.noPylong_small hq.2.1))
    · exact hq.elim
  · unfold binMod at hq
    split at hq
    · simp only [Val] at ha hb; obtain ⟨t, rfl⟩ := ha; obtain ⟨u, rfl⟩ := hb
      exact mod_int hq.1 (outT hq.2 (by simp [Val]) I)
    · exact hq.elim
  · unfold binAnd at hq
    split at hq
    · simp only [Val] at ha hb; obtain ⟨t, rfl⟩ := ha; obtain ⟨u, rfl⟩ := hb
      exact and_int (outT hq (by simp [Val]) I)
    · exact hq.elim
  · unfold binPow at hq
    split at hq
    · simp only [Val] at ha hb; obtain ⟨t, rfl⟩ := ha; obtain ⟨u, rfl⟩ := hb
      exact pow_int hq.1 hq.2.1 (outT hq.2.2 (by simp [Val]) I)
    · exact hq.elim
  · exact hq.elim

noncomputable def bin (op : Operator) (f g : Sm) : Sm := fun st Q => f st fun a st₁ => g st₁ fun b st₂ => binP op a b fun d => Q d st₂
theorem Ev.bin {l r : Expr} {op : Operator} {pos : Pos} {f g : Sm} (hl : Ev B n Γ l f) (hr : Ev B n Γ r g) : Ev B n Γ (.BinOp l op r pos) (bin op f g) := by
  refine ⟨?_⟩
  intro A env G st s Q hA I hf
  refine C.BinE (W.mono (hl.1 A env G st s _ hA I hf) (fun a s₁ ⟨da, st₁, G₁, h1, h2, h3, h4⟩ => ?_))
  refine W.mono (hr.1 A env G₁ st₁ s₁ _ hA h3 h1) (fun b s₂ ⟨db, st₂, G₂, k1, k2, k3, k4⟩ => ?_)
  exact wp_from (h4.trans k4) (W.any (bin_ok k3 (h2.mono k4.le) k2 k1))

noncomputable def neg (f : Sm) : Sm := fun st Q => f st fun d st₁ => match d with | .int i => Q (.int (-i)) st₁ | _ => False
theorem Ev.neg {e : Expr} {pos : Pos} {f : Sm} (h : Ev B n Γ e f) : Ev B n Γ (.UnaryOp .USub e pos) (neg f) := by
  refine ⟨?_⟩
  intro A env G st s Q hA I hf
  refine C.UnOp (W.mono (h.1 A env G st s _ hA I hf) (fun v s₁ ⟨d, st₁, G₁, h1, h2, h3, h4⟩ => ?_))
  cases d <;> first | exact False.elim h1 | skip
  rename_i i
  simp only [Val] at h2
  obtain ⟨t, rfl⟩ := h2
  exact W.any (neg_int ⟨.int (-i), st₁, G₁, h1, by simp [Val], h3.toks, h4.trans .toks⟩)
end
end

section
section
variable {B : Base} {n : Nat} {Γ : Ctx} {env : Env} {G G' : Gh} {st : St} {s s' : Shared} {A : Around}

noncomputable def V.isNone : V → Bool
  | .none => true
  | _ => false
noncomputable def inI (x : Int) : List V → (Bool → Prop) → Prop
  | [], Q => Q false
  | .int y :: r, Q => inI x r fun b => Q (y == x || b)
  | _ :: _, _ => False
noncomputable def inB (x : List UInt8) : List V → (Bool → Prop) → Prop
  | [], Q => Q false
  | .byt y :: r, Q => inB x r fun b => Q (y == x || b)
  | _ :: _, _ => False

noncomputable def cmpEq (a b : V) (Q : Bool → Prop) : Prop :=
  match a, b with
  | .int x, .int y => Q (x == y)
  | .byt x, .byt y => Q (x == y)
  | .bool x, .bool y => Q (x == y)
  | .none, .byt _ => Q false
  | _, _ => False
noncomputable def cmpNe (a b : V) (Q : Bool → Prop) : Prop :=
  match a, b with
  | .int x, .int y => Q (x != y)
  | .byt x, .byt y => Q (x != y)
  | .none, .none => Q false
  | .int _, .none => Q true
  | .none, .int _ => Q true
  | .lst x, .lst [] => x.length ≤ 1000000 ∧ Q (!x.isEmpty)
  | _, _ => False
noncomputable def cmpLt (a b : V) (Q : Bool → Prop) : Prop :=
  match a, b with
  | .int x, .int y => Q (decide (x < y))
  | _, _ => False
noncomputable def cmpLe (a b : V) (Q : Bool → Prop) : Prop :=
  match a, b with
  | .int x, .int y => Q (decide (x ≤ y))
  | _, _ => False
noncomputable def cmpGt (a b : V) (Q : Bool → Prop) : Prop :=
  match a, b with
  | .int x, .int y => Q (decide (x > y))
  | _, _ => False
noncomputable def cmpGe (a b : V) (Q : Bool → Prop) : Prop :=
  match a, b with
  | .int x, .int y => Q (decide (x ≥ y))
  | _, _ => False
noncomputable def cmpIs (a b : V) (Q : Bool → Prop) : Prop :=
  match b with
  | .none => Q a.isNone
  | _ => False
noncomputable def cmpNot (a b : V) (Q : Bool → Prop) : Prop :=
  match b with
  | .none => Q (!a.isNone)
  | _ => False
noncomputable def cmpIn (a b : V) (Q : Bool → Prop) : Prop :=
  match a, b with
  | .int x, .tup vs => inI x vs Q
  | .int x, .lst vs => inI x vs Q
  | .byt x, .tup vs => inB x vs Q
  | .int x, .byt b => (0 ≤ x ∧ x < 256) ∧ Q (b.contains x.toNat.toUInt8)
  | .byt x, .byt y => (x.length ≤ 16777216 ∧ y.length ≤ 16777216) ∧ Q (Builtin.Bytes.find? y.toArray x.toArray 0 y.length).isSome
  | _, _ => False
noncomputable def cmpP (op : CmpOp) (a b : V) (Q : Bool → Prop) : Prop :=
  match op with
  | .Eq => cmpEq a b Q
  | .NotEq => cmpNe a b Q
  | .Lt => cmpLt a b Q
  | .LtE => cmpLe a b Q
  | .Gt => cmpGt a b Q
  | .GtE => cmpGe a b Q
  | .Is => cmpIs a b Q
  | .IsNot => cmpNot a b Q
  | .In => cmpIn a b Q
  | _ => False

theorem inI_ints {x : Int} : ∀ {ds : List V} {vs : List Value} {Q : Bool → Prop}, Vals G ds vs → inI x ds Q → ∃ ns, IntsAre vs ns ∧ Q (ns.any (· == x))
  | [], _, Q, h, hq => by
    simp only [Vals] at h
    subst h
    exact ⟨[], .nil, hq⟩
  | d :: ds, _, Q, h, hq => by
    simp only [Vals] at h
    obtain ⟨v, r, rfl, h1, h2⟩ := h
    cases d <;> first | exact False.elim hq | skip
    rename_i y
    simp only [Val] at h1
    obtain ⟨u, rfl⟩ := h1
    obtain ⟨ns, e1, e2⟩ := inI_ints h2 hq
    exact ⟨y :: ns, .cons y u e1, by rw [List.any_cons]; exact e2⟩

noncomputable def isByt (x : List UInt8) : Value → Bool
  | .bytes b _ => b.toList == x
  | _ => false
theorem eqBool_bytes {x y : Array UInt8} {t u : Tok} {prog : Program} {w : World} {E : Value → Shared → Prop} {Q : Bool → Shared → Prop} (h : Q (x.toList == y.toList) s) : wpAny (model prog w) A (eqBool (.bytes x t) (.bytes y u)) Q E s := by
  unfold eqBool
  show wpAny _ _ (if (Value.bytes x t == Value.bytes y u) = true then _ else _) Q E s
  by_cases hab : (Value.bytes x t == Value.bytes y u) = true
  · rw [if_pos hab]
    have e : x = y := by have := eq_of_beq hab; injection this
    subst e
    exact wpAny_bind (wpAny_rule (wpAny_pure (by simpa using h)))
  · rw [if_neg hab]
    exact wpAny_bind (eq_bytes (wpAny_truthy_bool h))
theorem inB_ok {x : List UInt8} {t : Tok} : ∀ {ds : List V} {vs : List Value} {Q : Bool → Prop}, Vals G ds vs → inB x ds Q → (∀ y ∈ vs, MeetsSeq.EqGives y (.bytes x.toArray t) (isByt x y)) ∧ Q (vs.any (isByt x))
  | [], _, Q, h, hq => by
    simp only [Vals] at h
    subst h
    exact ⟨fun _ h => (nomatch h), hq⟩
  | d :: ds, _, Q, h, hq => by
    simp only [Vals] at h
    obtain ⟨v, r, rfl, h1, h2⟩ := h
    cases d <;> first | exact False.elim hq | skip
    rename_i y
    simp only [Val] at h1
    obtain ⟨u, rfl⟩ := h1
    obtain ⟨e1, e2⟩ := inB_ok (t := t) h2 hq
    refine ⟨fun z hz => ?_, by rw [List.any_cons]; exact e2⟩
    rcases List.mem_cons.mp hz with rfl | hz
    · exact fun _ _ _ _ _ _ h => eqBool_bytes (by simpa [isByt] using h)
    · exact e1 z hz

theorem val_plain {d : V} {v : Value} (h : Val G d v) : plainIs v .none = true ∧ (v == .none) = d.isNone := by
  cases d <;> simp only [Val] at h
  · subst h; exact ⟨rfl, rfl⟩
  · subst h; exact ⟨rfl, rfl⟩
  · obtain ⟨t, rfl⟩ := h; exact ⟨rfl, rfl⟩
  · obtain ⟨t, rfl⟩ := h; exact ⟨rfl, rfl⟩
  · obtain ⟨a, _, _, rfl, _⟩ := h; exact ⟨rfl, rfl⟩
  · obtain ⟨a, _, _, _, rfl, _⟩ := h; exact ⟨rfl, rfl⟩
  · obtain ⟨a, _, _, _, _, rfl, _⟩ := h; exact ⟨rfl, rfl⟩
  · obtain ⟨a, _, rfl⟩ := h; exact ⟨rfl, rfl⟩
  · obtain ⟨a, _, rfl⟩ := h; exact ⟨rfl, rfl⟩

theorem cmp_ok {op : CmpOp} {a b : V} {va vb : Value} {Q : Bool → St → Prop} (hA : Room n A) (I : Inv B Γ env G st s) (ha : Val G a va) (hb : Val G b vb) (hq : cmpP op a b fun d => Q d st) :
    wpAny (model B.prog B.w) A (compareOp op va vb) (Out B Γ env G s (fun G c v => Val G (.bool c) v) Q) noE s := by
  unfold cmpP at hq
  split at hq
  · unfold cmpEq at hq
    split at hq <;> (try simp only [Val] at ha) <;> (try simp only [Val] at hb)
    · obtain ⟨t, rfl⟩ := ha; obtain ⟨u, rfl⟩ := hb
      exact eq_int (out hq (by simp [Val]) I)
    · obtain ⟨t, rfl⟩ := ha; obtain ⟨u, rfl⟩ := hb
      exact eq_bytes (out hq (by simp [Val]) I)
    · subst ha hb
      exact eq_bool (out hq (by simp [Val]) I)
    · obtain ⟨u, rfl⟩ := hb; subst ha
      exact eq_none_bytes (out hq (by simp [Val]) I)
    · exact hq.elim
  · unfold cmpNe at hq
    split at hq <;> (try simp only [Val] at ha) <;> (try simp only [Val] at hb)
    · obtain ⟨t, rfl⟩ := ha; obtain ⟨u, rfl⟩ := hb
      exact ne_int (out hq (by simp [Val]) I)
    · obtain ⟨t, rfl⟩ := ha; obtain ⟨u, rfl⟩ := hb
      exact ne_bytes (out hq (by simp [Val]) I)
    · subst ha hb
      exact EqNone.ne_none_none (out hq (by simp [Val]) I)
    · obtain ⟨t, rfl⟩ := ha; subst hb
      exact EqNone.ne_int_none (out hq (by simp [Val]) I)
    · obtain ⟨u, rfl⟩ := hb; subst ha
      exact EqNone.ne_none_int (out hq (by simp [Val]) I)
    · obtain ⟨l, o, ws, m, rfl, hl, hc, hd, hv⟩ := ha
      obtain ⟨l', o', ws', m', rfl, hl', hc', hd', hv'⟩ := hb
      simp only [Vals] at hv'
      have e' : ws' = #[] := by cases ws'; simpa using hv'
      subst e'
      have hu : A.units < cLine := by have := hA.units; unfold cLine; lia
      have IL : s.heap.IsList l ws := ⟨o, I.known _ _ hl, hc, m, hd⟩
      have IL' : s.heap.IsList l' #[] := ⟨o', I.known _ _ hl', hc', m', hd'⟩
      show wpAny _ A (richCompare .NotEq _ _) _ _ s
      rename_i x
      have el := hv.length
      by_cases hz : ws.size = 0
      · have : x = [] := by cases x; rfl; simp_all
        subst this
        refine SeqAt.RcNeAt.lists (e := fun _ => true) IL IL' (by simpa using hz) hu (fun j h1 h2 => absurd h2 (by simp)) _ _ _ _ ?_
        rw [hz]
        exact out hq.2 (by simp [Val]) I
      · have : x.isEmpty = false := by
          cases x with
          | nil => simp only [List.length_nil, Array.length_toList] at el; exact absurd el hz
          | cons a r => rfl
        rw [this] at hq
        exact SeqAt.RcNeAt.lists_lengths IL IL' (by simpa using hz) hu _ _ _ _ (out hq.2 (by simp [Val]) I)
    · exact hq.elim
  · unfold cmpLt at hq
    split at hq <;> (try simp only [Val] at ha) <;> (try simp only [Val] at hb)
    · obtain ⟨t, rfl⟩ := ha; obtain ⟨u, rfl⟩ := hb
      exact lt_int (out hq (by simp [Val]) I)
    · exact hq.elim
  · unfold cmpLe at hq
    split at hq <;> (try simp only [Val] at ha) <;> (try simp only [Val] at hb)
    · obtain ⟨t, rfl⟩ := ha; obtain ⟨u, rfl⟩ := hb
      exact P.le_int (out hq (by simp [Val]) I)
    · exact hq.elim
  · unfold cmpGt at hq
    split at hq <;> (try simp only [Val] at ha) <;> (try simp only [Val] at hb)
    · obtain ⟨t, rfl⟩ := ha; obtain ⟨u, rfl⟩ := hb
      exact P.gt_int (out hq (by simp [Val]) I)
    · exact hq.elim
  · unfold cmpGe at hq
    split at hq <;> (try simp only [Val] at ha) <;> (try simp only [Val] at hb)
    · obtain ⟨t, rfl⟩ := ha; obtain ⟨u, rfl⟩ := hb
      exact P.ge_int (out hq (by simp [Val]) I)
    · exact hq.elim
  · unfold cmpIs at hq
    split at hq <;> (try simp only [Val] at ha) <;> (try simp only [Val] at hb)
    · subst hb
      have k := val_plain ha
      exact wpAny_is_plain k.1 (by rw [k.2]; exact out hq (by simp [Val]) I)
    · exact hq.elim
  · unfold cmpNot at hq
    split at hq <;> (try simp only [Val] at ha) <;> (try simp only [Val] at hb)
    · subst hb
      have k := val_plain ha
      exact wpAny_isNot_plain k.1 (by rw [k.2]; exact out hq (by simp [Val]) I)
    · exact hq.elim
  · unfold cmpIn at hq
    split at hq <;> (try simp only [Val] at ha) <;> (try simp only [Val] at hb)
    · obtain ⟨t, rfl⟩ := ha
      obtain ⟨l, ws, m, rfl, hl, hv⟩ := hb
      obtain ⟨ns, e1, e2⟩ := inI_ints hv hq
      refine SeqRoads2.in_meets ⟨_, I.known _ _ hl, rfl⟩ F.slot_tuple_contains F.entry_tuple_contains (F.args_tuple_contains_2 _ _) (MeetsSeq2.tuple_contains l ws m (.int _ t) (isInt _) fun y hy => eq_isInt _ t e1 y (by simpa using hy)) ⟨I.known _ _ hl, ?_⟩
      rw [← Array.any_toList, any_isInt _ e1]
      exact ⟨_, rfl, out e2 (by simp [Val]) I⟩
    · obtain ⟨t, rfl⟩ := ha
      obtain ⟨l, o, ws, m, rfl, hl, hc, hd, hv⟩ := hb
      obtain ⟨ns, e1, e2⟩ := inI_ints hv hq
      exact in_list_ints (l := l) (vs := ws.toList) ⟨o, I.known _ _ hl, hc, m, by simpa using hd⟩ e1 (out e2 (by simp [Val]) I)
    · obtain ⟨t, rfl⟩ := ha
      obtain ⟨l, ws, m, rfl, hl, hv⟩ := hb
      obtain ⟨e1, e2⟩ := inB_ok (t := t) hv hq
      refine SeqRoads2.in_meets ⟨_, I.known _ _ hl, rfl⟩ F.slot_tuple_contains F.entry_tuple_contains (F.args_tuple_contains_2 _ _) (MeetsSeq2.tuple_contains l ws m _ (isByt _) fun y hy => e1 y (by simpa using hy)) ⟨I.known _ _ hl, ?_⟩
      rw [← Array.any_toList]
      exact ⟨_, rfl, out e2 (by simp [Val]) I⟩
    · obtain ⟨t, rfl⟩ := ha; obtain ⟨u, rfl⟩ := hb
      exact contains_int hq.1.1 hq.1.2 (out (by simpa using hq.2) (by simp [Val]) I)
    · obtain ⟨t, rfl⟩ := ha; obtain ⟨u, rfl⟩ := hb
      exact contains_bytes hA.handled fun h' tk hk => outK (by simpa using hq.2) (by simp [Val]) I hk
    · exact hq.elim
  · exact hq.elim

noncomputable def cmp (op : CmpOp) (f g : Sm) : Sm := fun st Q => f st fun a st₁ => g st₁ fun b st₂ => cmpP op a b fun c => Q (.bool c) st₂
noncomputable def cmpT (op : CmpOp) (f g : Sm) : Ts := fun st Q => f st fun a st₁ => g st₁ fun b st₂ => cmpP op a b fun c => Q c st₂
theorem outB {Q : V → St → Prop} {v : Value} (h : Out B Γ env G s (fun G c v => Val G (.bool c) v) (fun c st => Q (.bool c) st) v s') : Out B Γ env G s Val Q v s' := by
  obtain ⟨d, st', G', h1, h2, h3, h4⟩ := h
  exact ⟨.bool d, st', G', h1, h2, h3, h4⟩
theorem cmp_w {op : CmpOp} {a b : V} {va vb : Value} {Q : Bool → St → Prop} (hA : Room n A) (I : Inv B Γ env G st s) (ha : Val G a va) (hb : Val G b vb) (hq : cmpP op a b fun d => Q d st) :
    W (model B.prog B.w) A (compareOp op va vb) (Out B Γ env G s (fun G c v => Val G (.bool c) v) Q) s := W.any (cmp_ok hA I ha hb hq)
theorem Ev.cmp {l r : Expr} {op : CmpOp} {pos : Pos} {f g : Sm} (hl : Ev B n Γ l f) (hr : Ev B n Γ r g) (hm : behindInMarks op r = false := by with_unfolding_all rfl) : Ev B n Γ (.Compare l [op] [r] pos) (cmp op f g) := by
  refine ⟨?_⟩
  intro A env G st s Q hA I hf
  refine C.Cmp1 hm (W.mono (hl.1 A env G st s _ hA I hf) (fun a s₁ ⟨da, st₁, G₁, h1, h2, h3, h4⟩ => ?_))
  refine W.mono (hr.1 A env G₁ st₁ s₁ _ hA h3 h1) (fun b s₂ ⟨db, st₂, G₂, k1, k2, k3, k4⟩ => ?_)
  exact wp_from (h4.trans k4) (W.mono (cmp_w (Q := fun c st => Q (.bool c) st) hA k3 (h2.mono k4.le) k2 k1) (fun _ _ h => outB h))
theorem Tst.cmp {l r : Expr} {op : CmpOp} {pos : Pos} {f g : Sm} (hl : Ev B n Γ l f) (hr : Ev B n Γ r g) (hm : behindInMarks op r = false := by with_unfolding_all rfl) : Tst B n Γ (.Compare l [op] [r] pos) (cmpT op f g) := by
  refine ⟨?_⟩
  intro A env G st s Q hA I hf
  refine C.tCompare1 hm (W.mono (hl.1 A env G st s _ hA I hf) (fun a s₁ ⟨da, st₁, G₁, h1, h2, h3, h4⟩ => ?_))
  refine W.mono (hr.1 A env G₁ st₁ s₁ _ hA h3 h1) (fun b s₂ ⟨db, st₂, G₂, k1, k2, k3, k4⟩ => ?_)
  refine W.mono (cmp_w (Q := Q) hA k3 (h2.mono k4.le) k2 k1) (fun c s₃ ⟨d, st₃, G₃, j1, j2, j3, j4⟩ => ?_)
  simp only [Val] at j2
  subst j2
  exact W.any (wpAny_truthy_bool ⟨d, st₃, G₃, j1, rfl, j3, (h4.trans k4).trans j4⟩)

/-- a chain of two -/
noncomputable def cmp2T (o₁ o₂ : CmpOp) (f g h : Sm) : Ts := fun st Q => f st fun a st₁ => g st₁ fun b st₂ => cmpP o₁ a b fun c => match c with
  | true => h st₂ fun d st₃ => cmpP o₂ b d fun e => Q e st₃
  | false => Q false st₂
theorem Tst.cmp2 {l r r' : Expr} {o₁ o₂ : CmpOp} {pos : Pos} {f g h : Sm} (hl : Ev B n Γ l f) (hr : Ev B n Γ r g) (hr' : Ev B n Γ r' h) (hm : lastMarks [o₁, o₂] [r, r'] = false := by with_unfolding_all rfl) :
    Tst B n Γ (.Compare l [o₁, o₂] [r, r'] pos) (cmp2T o₁ o₂ f g h) := by
  refine ⟨?_⟩
  intro A env G st s Q hA I hf
  refine C.tCompare2 hm (W.mono (hl.1 A env G st s _ hA I hf) (fun a s₁ ⟨da, st₁, G₁, h1, h2, h3, h4⟩ => ?_))
  refine W.mono (hr.1 A env G₁ st₁ s₁ _ hA h3 h1) (fun b s₂ ⟨db, st₂, G₂, k1, k2, k3, k4⟩ => ?_)
  refine W.mono (cmp_w (Q := fun c st => match c with | true => h st fun d st₃ => cmpP o₂ db d fun e => Q e st₃ | false => Q false st) hA k3 (h2.mono k4.le) k2 k1) (fun c s₃ ⟨d, st₃, G₃, j1, j2, j3, j4⟩ => ?_)
  simp only [Val] at j2
  subst j2
  refine W.any (wpAny_truthy_bool ?_)
  cases d with
  | false => exact ⟨false, st₃, G₃, j1, rfl, j3, (h4.trans k4).trans j4⟩
  | true =>
    refine W.mono (hr'.1 A env G₃ st₃ s₃ _ hA j3 j1) (fun b' s₄ ⟨db', st₄, G₄, m1, m2, m3, m4⟩ => ?_)
    refine W.mono (cmp_w (Q := Q) hA m3 (k2.mono (j4.le.trans m4.le)) m2 m1) (fun c s₅ ⟨d, st₅, G₅, n1, n2, n3, n4⟩ => ?_)
    simp only [Val] at n2
    subst n2
    exact W.any (wpAny_truthy_bool ⟨d, st₅, G₅, n1, rfl, n3, (((h4.trans k4).trans j4).trans m4).trans n4⟩)
end
end

section
structure CallInv (B : Base) (G : Gh) (dk : Option Deck) (s : Shared) : Prop where
  base : ∀ a o, B.H.get? a = some o → G.K a = some o
  known : ∀ a o, G.K a = some o → s.heap.get? a = some o
  oa : G.oa = none
  Kd : ∀ p, G.dk = some p → G.K p.1 = none ∧ G.K p.2 = none ∧ p.1 ≠ p.2
  deck : DeckInv B G s.heap dk

structure CStep (G : Gh) (s : Shared) (G' : Gh) (s' : Shared) : Prop where
  same : ∃ h tk, s' = { s with heap := h, toks := tk }
  le : Gle G G'
  kn : ∀ a, G'.K a ≠ none → G.K a ≠ none ∨ s.heap.get? a = none
  dn : ∀ p, G'.dk = some p → G.dk = some p ∨ (s.heap.get? p.1 = none ∧ s.heap.get? p.2 = none)
  keep : ∀ b o, s.heap.get? b = some o → (∀ p, G.dk = some p → b ≠ p.1 ∧ b ≠ p.2) → s'.heap.get? b = some o
  ex : ∀ b, s'.heap.get? b = none → s.heap.get? b = none

abbrev Spec := List V → Option Deck → (V → Option Deck → Prop) → Prop
/-- a call of f does what φ says -/
noncomputable def Fn (B : Base) (n : Nat) (f : Value) (φ : Spec) : Prop :=
  ∀ (A : Around) (G : Gh) (s : Shared) (ds : List V) (vs : List Value) (dk : Option Deck) (Q : V → Option Deck → Prop), Room n A → CallInv B G dk s → Vals G ds vs → φ ds dk Q →
    W (model B.prog B.w) A (PySem.call f vs) (fun v s' => ∃ d dk' G', Q d dk' ∧ Val G' d v ∧ CallInv B G' dk' s' ∧ CStep G s G' s') s

mutual
noncomputable def V.free : V → Bool
  | .own => false
  | .tup ds => frees ds
  | .lst ds => frees ds
  | _ => true
noncomputable def frees : List V → Bool
  | [] => true
  | d :: ds => d.free && frees ds
end
mutual
theorem Val.unown {G : Gh} : ∀ {d : V} {v : Value}, d.free = true → Val G d v → Val { G with oa := none } d v
  | .none, _, _, x => by simpa [Val] using x
  | .bool _, _, _, x => by simpa [Val] using x
  | .int _, _, _, x => by simpa [Val] using x
  | .byt _, _, _, x => by simpa [Val] using x
  | .tup ds, _, f, x => by
    dsimp only [Val] at x ⊢
    obtain ⟨a, ws, n, e1, e2, e5⟩ := x
    exact ⟨a, ws, n, e1, e2, Vals.unown (by simpa [V.free] using f) e5⟩
  | .lst ds, _, f, x => by
    dsimp only [Val] at x ⊢
    obtain ⟨a, o, ws, n, e1, e2, e3, e4, e5⟩ := x
    exact ⟨a, o, ws, n, e1, e2, e3, e4, Vals.unown (by simpa [V.free] using f) e5⟩
  | .rng n, _, _, x => by simpa [Val] using x
  | .own, _, f, _ => by simp [V.free] at f
  | .deck, _, _, x => by simpa [Val] using x
theorem Vals.unown {G : Gh} : ∀ {ds : List V} {vs : List Value}, frees ds = true → Vals G ds vs → Vals { G with oa := none } ds vs
  | [], _, _, x => by simpa [Vals] using x
  | d :: ds, _, f, x => by
    dsimp only [Vals] at x ⊢
    obtain ⟨v, r, e1, e2, e3⟩ := x
    simp only [frees, Bool.and_eq_true] at f
    exact ⟨v, r, e1, Val.unown f.1 e2, Vals.unown f.2 e3⟩
end
mutual
theorem Val.reown {G : Gh} {a : Option Addr} : ∀ {d : V} {v : Value}, Val { G with oa := none } d v → Val { G with oa := a } d v
  | .none, _, x => by simpa [Val] using x
  | .bool _, _, x => by simpa [Val] using x
  | .int _, _, x => by simpa [Val] using x
  | .byt _, _, x => by simpa [Val] using x
  | .tup ds, _, x => by
    dsimp only [Val] at x ⊢
    obtain ⟨a, ws, n, e1, e2, e5⟩ := x
    exact ⟨a, ws, n, e1, e2, Vals.reown e5⟩
  | .lst ds, _, x => by
    dsimp only [Val] at x ⊢
    obtain ⟨a, o, ws, n, e1, e2, e3, e4, e5⟩ := x
    exact ⟨a, o, ws, n, e1, e2, e3, e4, Vals.reown e5⟩
  | .rng n, _, x => by simpa [Val] using x
  | .own, _, x => by simp [Val] at x
  | .deck, _, x => by simpa [Val] using x
theorem Vals.reown {G : Gh} {a : Option Addr} : ∀ {ds : List V} {vs : List Value}, Vals { G with oa := none } ds vs → Vals { G with oa := a } ds vs
  | [], _, x => by simpa [Vals] using x
  | d :: ds, _, x => by
    dsimp only [Vals] at x ⊢
    obtain ⟨v, r, e1, e2, e3⟩ := x
    exact ⟨v, r, e1, Val.reown e2, Vals.reown e3⟩
end

section
variable {B : Base} {n : Nat} {Γ : Ctx} {env : Env} {G G' : Gh} {st : St} {s s' : Shared} {A : Around}

theorem Inv.callInv (I : Inv B Γ env G st s) : CallInv B { G with oa := none } st.dk s where
  base := I.base
  known := I.known
  oa := rfl
  Kd := fun p e => ⟨(I.Kd p e).1, (I.Kd p e).2, (I.dL p e).2.2.1⟩
  deck := by
    have h := I.deck
    cases hd : st.dk with
    | none => rw [hd] at h; exact h
    | some d =>
      rw [hd] at h
      exact h

/-- behind a call the caller's facts hold as before -/
theorem Inv.called (I : Inv B Γ env G st s) {dk' : Option Deck} (C : CallInv B G' dk' s') (S : CStep { G with oa := none } s G' s') :
    Inv B Γ env { G' with oa := G.oa } { st with dk := dk' } s' ∧ Step Γ env G s { G' with oa := G.oa } s' := by
  have le : Gle G { G' with oa := G.oa } := ⟨S.le.K, fun _ e => e, S.le.dk⟩
  have used : ∀ j, Used env G j → s.heap.get? j ≠ none := fun j u h => by
    have := I.lt u
    have key : ∃ o, s.heap.get? j = some o := by
      rcases u with u | u | ⟨x, u⟩ | u | ⟨p, e, u⟩
      · cases hq : G.K j with
        | none => exact absurd hq u
        | some o => exact ⟨o, I.known j o hq⟩
      · subst u
        obtain ⟨m, cm, ⟨o, _, _, ho, _⟩, _⟩ := I.ns
        exact ⟨o, ho⟩
      · obtain ⟨m, cm, _, h2, _⟩ := I.ns
        obtain ⟨o, ho, _⟩ := h2 x j u
        exact ⟨o, ho⟩
      · cases hq : s.heap.get? j with
        | none => exact absurd hq (I.oex j u)
        | some o => exact ⟨o, rfl⟩
      · have h := I.deck
        cases hd : st.dk with
        | none => rw [hd] at h; rw [show G.dk = none from h] at e; cases e
        | some d =>
          rw [hd] at h
          obtain ⟨p', t, v, ws, e1, ⟨o, es, ep, ho, r⟩, ⟨nc, hoc⟩, hi⟩ := h
          rw [e] at e1
          cases e1
          rcases u with u | u
          · exact ⟨o, u ▸ ho⟩
          · exact ⟨_, u ▸ hoc⟩
    obtain ⟨o, ho⟩ := key
    rw [ho] at h; cases h
  have keepL : ∀ b o, (∀ p, G.dk = some p → b ≠ p.1 ∧ b ≠ p.2) → s.heap.get? b = some o → s'.heap.get? b = some o := fun b o h e => S.keep b o e h
  have Kfresh : ∀ j, Used env G j → G.K j = none → G'.K j = none := fun j u h => by
    cases hq : G'.K j with
    | none => rfl
    | some o =>
      rcases S.kn j (by rw [hq]; exact fun x => nomatch x) with h' | h'
      · exact absurd h h'
      · exact absurd h' (used j u)
  have dnU : ∀ p, G'.dk = some p → G.dk = some p ∨ ∀ j, Used env G j → j ≠ p.1 ∧ j ≠ p.2 := fun p e => by
    rcases S.dn p e with h | ⟨h1, h2⟩
    · exact .inl h
    · exact .inr fun j u => ⟨fun q => used j u (q ▸ h1), fun q => used j u (q ▸ h2)⟩
  have uL : Used env G env.locals := .inr (.inl rfl)
  have uC : ∀ x c, env.cells.lookup x = some c → Used env G c := fun x c h => .inr (.inr (.inl ⟨x, h⟩))
  have uO : ∀ a, G.oa = some a → Used env G a := fun a h => .inr (.inr (.inr (.inl h)))
  refine ⟨{
    kind := I.kind
    names := I.names
    globals := I.globals
    builtins := I.builtins
    base := C.base
    known := C.known
    KL := Kfresh _ uL I.KL
    Kc := fun hf x c h => Kfresh _ (uC x c h) (I.Kc hf x c h)
    Ko := fun c h a e => Kfresh _ (uO a e) (I.Ko c h a e)
    Kd := fun p e => ⟨(C.Kd p e).1, (C.Kd p e).2.1⟩
    ns := ?_
    ok := I.ok
    cells := I.cells
    cap := I.cap
    cL := I.cL
    oL := I.oL
    dL := fun p e => ?_
    own := I.own.mono le I.own.none fun a o e1 e2 => keepL a o (fun p e => (I.dL p e).2.2.2.2 a e1) e2
    oex := fun a e h => I.oex a e (S.ex a h)
    deck := ?_ }, {
    same := S.same
    le := le
    kn := fun a h => (S.kn a h).imp_right .inl
    on := fun a h => .inl h
    dn := S.dn
    keep := fun b o e h => S.keep b o e fun p hp => ⟨fun q => h (.inr (.inr (.inr ⟨p, S.le.dk p hp, .inl q⟩))), fun q => h (.inr (.inr (.inr ⟨p, S.le.dk p hp, .inr q⟩)))⟩
    ex := S.ex }⟩
  · obtain ⟨m, cm, h1, h2, h3⟩ := I.ns
    refine ⟨m, cm, h1.at' fun o e => keepL _ o (fun p hp => ⟨Ne.symm (I.dL p hp).1, Ne.symm (I.dL p hp).2.1⟩) e, fun x c e => ?_, fun i x c d a1 a2 => ?_⟩
    · obtain ⟨o, ho, hd⟩ := h2 x c e
      exact ⟨o, keepL c o (fun p hp => (I.dL p hp).2.2.2.1 x c e) ho, hd⟩
    · obtain ⟨v, b1, b2⟩ := h3 i x c d a1 a2
      exact ⟨v, b1.mono le, b2⟩
  · rcases dnU p e with h | h
    · exact I.dL p h
    · exact ⟨Ne.symm (h _ uL).1, Ne.symm (h _ uL).2, (C.Kd p e).2.2, fun x c hc => h c (uC x c hc), fun a ha => h a (uO a ha)⟩
  · have h := C.deck
    cases dk' with
    | none => exact h
    | some d => exact h

theorem bindL_at {k : Str → Option NameKind} : ∀ (bs : List (Str × Value)) (m : Str → Option Value) (x : Str) (v : Value), (bs.map (·.1)).Nodup → (x, v) ∈ bs → k x = some .local → bindL k bs m x = some v := by
  have out : ∀ (bs : List (Str × Value)) (m : Str → Option Value) (x : Str), x ∉ bs.map (·.1) → bindL k bs m x = m x := by
    intro bs
    induction bs with
    | nil => intro m x _; rfl
    | cons b r ih =>
      obtain ⟨n, w⟩ := b
      intro m x hx
      simp only [List.map_cons, List.mem_cons, not_or] at hx
      show bindL k r _ x = m x
      rw [ih _ x hx.2]
      split
      · exact if_neg hx.1
      · rfl
  intro bs
  induction bs with
  | nil => intro m x v _ h; cases h
  | cons b r ih =>
    obtain ⟨n, w⟩ := b
    intro m x v hn h hk
    simp only [List.map_cons, List.nodup_cons] at hn
    rcases List.mem_cons.mp h with h | h
    · cases h
      show bindL k r _ n = some w
      rw [out r _ n hn.1, if_pos hk]
      exact if_pos rfl
    · exact ih _ _ _ hn.2 h hk
theorem bindC_at {k : Str → Option NameKind} : ∀ (bs : List (Str × Value)) (m : Str → Option Value) (x : Str) (v : Value), (bs.map (·.1)).Nodup → (x, v) ∈ bs → k x = some .cell → bindC k bs m x = some v := by
  have out : ∀ (bs : List (Str × Value)) (m : Str → Option Value) (x : Str), x ∉ bs.map (·.1) → bindC k bs m x = m x := by
    intro bs
    induction bs with
    | nil => intro m x _; rfl
    | cons b r ih =>
      obtain ⟨n, w⟩ := b
      intro m x hx
      simp only [List.map_cons, List.mem_cons, not_or] at hx
      show bindC k r _ x = m x
      rw [ih _ x hx.2]
      split
      · rfl
      · exact if_neg hx.1
  intro bs
  induction bs with
  | nil => intro m x v _ h; cases h
  | cons b r ih =>
    obtain ⟨n, w⟩ := b
    intro m x v hn h hk
    simp only [List.map_cons, List.nodup_cons] at hn
    rcases List.mem_cons.mp h with h | h
    · cases h
      show bindC k r _ n = some w
      rw [out r _ n hn.1, if_neg (by rw [hk]; decide)]
      exact if_pos rfl
    · exact ih _ _ _ hn.2 h hk
theorem cellsFrom_has {x : Str} : ∀ {l : List (Str × NameKind)} {k : Nat} {acc : List (Str × Addr)}, (l.lookup x = some .cell ∨ (acc.lookup x).isSome = true) → ((cellsFrom k l acc).lookup x).isSome = true
  | [], k, acc, h => by rcases h with h | h; cases h; exact h
  | (y, kd) :: r, k, acc, h => by
    unfold cellsFrom
    by_cases hxy : x = y
    · subst hxy
      split
      · exact cellsFrom_has (.inr (by simp))
      · rename_i hk
        rcases h with h | h
        · rw [List.lookup_cons, show (x == x) = true from by simp] at h
          cases h
          exact absurd rfl hk
        · exact cellsFrom_has (.inr h)
    · have hb : (x == y) = false := beq_eq_false_iff_ne.mpr hxy
      rw [List.lookup_cons, hb] at h
      split
      · refine cellsFrom_has (h.imp_right fun h => ?_)
        rw [List.lookup_cons, hb]; exact h
      · exact cellsFrom_has h

/-- where a function starts -/
noncomputable def start (Γ : Ctx) (ds : List V) (dk : Option Deck) : St := ⟨ds.map some ++ List.replicate (Γ.vars.length - ds.length) none, .fresh, dk⟩
noncomputable def entry (Γ : Ctx) (k : Nat) (sem : Sx) : Spec := fun ds dk Q => ds.length = k ∧ sem (start Γ ds dk) fun fl st => match fl with
  | .next => Q .none st.dk
  | .ret d => d.free = true ∧ Q d st.dk

theorem Room.deeper {env : Env} (h : Room (n + 1) A) : Room n (A.deeper env) where
  handled := h.handled
  guards := h.guards
  depth := by have := h.depth; show A.depth + 1 + n < 1000; lia
  units := by have := h.units; show A.units + 3 + 100 * n + 100 < 9900; lia
theorem Room.mono {m : Nat} (h : Room n A) (hm : m ≤ n) : Room m A where
  handled := h.handled
  guards := h.guards
  depth := by have := h.depth; lia
  units := by have := h.units; lia

theorem Vals.at : ∀ {ds : List V} {vs : List Value}, Vals G ds vs → ∀ {i : Nat} {d : V}, ds[i]? = some d → ∃ v, vs[i]? = some v ∧ Val G d v
  | [], _, _, i, d, e => by simp at e
  | d :: ds, vs, h, i, d', e => by
    dsimp only [Vals] at h
    obtain ⟨v, r, rfl, h1, h2⟩ := h
    cases i with
    | zero => simp only [List.getElem?_cons_zero, Option.some.injEq] at e; subst e; exact ⟨v, rfl, h1⟩
    | succ i => dsimp only [List.getElem?_cons_succ] at e ⊢; exact Vals.at h2 e

structure Params (Γ : Ctx) (ps : List (Str × Bool)) : Prop where
  eq : Γ.vars.take ps.length = ps.map some
theorem Params.at {ps : List (Str × Bool)} (h : Params Γ ps) {i : Nat} {x : Str × Bool} (hi : i < ps.length) : Γ.vars[i]? = some (some x) ↔ ps[i]? = some x := by
  have e : (Γ.vars.take ps.length)[i]? = (ps.map some)[i]? := by rw [h.eq]
  rw [List.getElem?_take, if_pos hi, List.getElem?_map] at e
  rw [e]
  cases ps[i]? <;> simp

theorem Fn.of {a : Addr} {o : Obj} {fd : FuncData} {body : List Stmt} {ps : List (Str × Bool)} {sem : Sx} (hlim : B.H.NoLimit) (ho : B.H.get? a = some o) (hdata : o.data = .func fd) (hcd : B.H.CodeRec fd.code fd.qualname)
    (hbody : fd.body = .stmts body) (hglob : fd.globals = mainGlobals) (hblt : fd.builtins = builtinsNs) (hclo : fd.closure = [])
    (hbind : ∀ vs, vs.length = ps.length → bindArgs fd ⟨vs, []⟩ = pure ((ps.map (·.1)).zip vs))
    (hok : Γ.ok = true) (hn : fd.scope.names = Γ.names) (hfn : Γ.fn = true) (hps : Params Γ ps) (hb : ExL B n Γ body sem)
    (hco : fd.scope.isCoroutine = false) (hgen : fd.scope.isGenerator = false) (hk : fd.scope.kind = .function) :
    Fn B (n + 1) (.ref a) (entry Γ ps.length sem) := by
  intro A G s ds vs dk Q hA C hv hq
  obtain ⟨hlen, hq⟩ := hq
  have hlv : vs.length = ps.length := by rw [hv.length, hlen]
  have hs := C.known a o (C.base a o ho)
  have lim : s.heap.NoLimit := hlim.keeps fun b p e => C.known b p (C.base b p e)
  have cdr : s.heap.CodeRec fd.code fd.qualname := hcd.keeps fun b p e => C.known b p (C.base b p e)
  have hroom : A.depth < recursionLimit := by have := hA.depth; unfold recursionLimit; lia
  have psN : (ps.map (·.1)).Nodup := by
    have h := hok
    unfold Ctx.ok at h
    simp only [Bool.and_eq_true, decide_eq_true_eq] at h
    have h2 := h.1.2
    rw [← List.take_append_drop ps.length Γ.vars, List.filterMap_append] at h2
    have h3 := (List.nodup_append.mp h2).1
    rw [hps.eq, List.filterMap_map] at h3
    have e : (ps.filterMap ((fun o : Option (Str × Bool) => o.map (·.1)) ∘ some)) = ps.map (·.1) := by
      rw [← List.filterMap_eq_map]; rfl
    rw [e] at h3
    exact h3
  have zipN : (((ps.map (·.1)).zip vs).map (·.1)).Nodup := by
    rw [List.map_fst_zip (by rw [List.length_map, hlv]; exact Nat.le_refl _)]; exact psN
  have pK : ∀ (i : Nat) (x : Str) (c : Bool), ps[i]? = some (x, c) → fd.scope.names.lookup x = some (if c then .cell else .local) := fun i x c e => by
    rw [hn]
    refine (ok_var hok (i := i) ((hps.at ?_).mpr e)).1
    exact (List.getElem?_eq_some_iff.mp e).1
  unfold PySem.call
  refine W.call (WC.tree ?_)
  show W _ A.in1 (callAny (.ref a) ⟨vs, []⟩) _ s
  dsimp only [callAny]
  refine W.bind (W.any (wpAny_load hs ?_))
  obtain ⟨c, oc, cvs, tq, hc, hoc, hdc, hq'⟩ := cdr
  simp only [hdata, callFunction, hco, hgen, hbody, hc]
  refine W.bind (m := field (.ref c) 1) (W.any (wpAny_field hoc hdc hq' ?_))
  refine W.bind (W.pure ?_)
  rw [hbind vs hlv, hclo]
  refine W.bind (W.pure ?_)
  refine W.bind (W.any (wpAny_newFunctionEnv_cells hk (fun x hx => ?_) fun env he s' x => ?_))
  · obtain ⟨i, hi⟩ := List.getElem?_of_mem hx
    have h1 : (ps.map (·.1))[i]? = some x.1 := by
      have := congrArg (Option.map Prod.fst) hi
      rw [← List.getElem?_map, List.map_fst_zip (by rw [List.length_map, hlv]; exact Nat.le_refl _)] at this
      exact this
    rw [List.getElem?_map] at h1
    cases hpi : ps[i]? with
    | none => rw [hpi] at h1; cases h1
    | some y =>
      rw [hpi] at h1
      obtain ⟨y, c⟩ := y
      cases h1
      have := pK i x.1 c hpi
      cases c with
      | false => exact .inl this
      | true => exact .inr ⟨this, cellsFrom_has (.inl this)⟩
  · have hlt : ∀ {b : Addr} {o : Obj}, s.heap.get? b = some o → b < env.locals := fun e => Nat.lt_of_lt_of_le (Heap.lt_size e) x.toInCall.fresh
    have hKn : ∀ b, env.locals ≤ b → G.K b = none := fun b hb => by
      cases hq : G.K b with
      | none => rfl
      | some p => exact absurd (hlt (C.known b p hq)) (Nat.not_lt.mpr hb)
    have cA : ∀ x' c', env.cells.lookup x' = some c' → env.locals < c' := fun x' c' h => x.above x' c' (mem_of_lookup h)
    have dA : ∀ p, G.dk = some p → p.1 < env.locals ∧ p.2 < env.locals := fun p e => by
      have h := C.deck
      cases hd : dk with
      | none => rw [hd] at h; rw [show G.dk = none from h] at e; cases e
      | some d =>
        rw [hd] at h
        obtain ⟨p', t, v, ws, e1, ⟨o, es, ep, ho, r⟩, ⟨nc, hoc⟩, hi⟩ := h
        rw [e] at e1
        cases e1
        exact ⟨hlt ho, hlt hoc⟩
    have eS : env.scope = fd.scope := by rw [he]; rfl
    have eC : env.cells = cellsFrom (s.heap.objs.size + 1) fd.scope.names [] := by rw [he]; rfl
    have eK : ∀ y, env.kindOf y = Γ.names.lookup y := fun y => by unfold Env.kindOf; rw [eS, hn]
    have I' : Inv B Γ env G (start Γ ds dk) s' := {
      kind := by rw [eS, hk]
      names := by rw [eS, hn]
      globals := by rw [he]; exact hglob
      builtins := by rw [he]; exact hblt
      base := C.base
      known := fun b p e => x.toInCall.keep b p (C.known b p e)
      KL := hKn _ (Nat.le_refl _)
      Kc := fun _ y c h => hKn _ (Nat.le_of_lt (cA y c h))
      Ko := fun c h => nomatch h
      Kd := fun p e => ⟨(C.Kd p e).1, (C.Kd p e).2.1⟩
      ns := by
        refine ⟨_, _, x.toInCall.ns, x.cell, fun i y c d h1 h2 => ?_⟩
        have hi : i < ds.length := by
          rcases Nat.lt_or_ge i ds.length with h | h
          · exact h
          · unfold start at h2
            rw [List.getElem?_append_right (by simpa using h)] at h2
            rw [List.getElem?_replicate] at h2
            split at h2 <;> cases h2
        unfold start at h2
        rw [List.getElem?_append_left (by simpa using hi), List.getElem?_map] at h2
        cases hdi : ds[i]? with
        | none => rw [hdi] at h2; cases h2
        | some d' =>
          rw [hdi] at h2
          cases h2
          obtain ⟨v, hvi, hvv⟩ := hv.at hdi
          have hpi := (hps.at (by rw [hlen] at hi; exact hi)).mp h1
          have hz : ((ps.map (·.1)).zip vs)[i]? = some (y, v) := by
            rw [List.getElem?_zip_eq_some]
            exact ⟨by rw [List.getElem?_map, hpi]; rfl, hvi⟩
          have hk' := pK i y c hpi
          refine ⟨v, hvv, fun e => ?_, fun e => ?_⟩
          · subst e
            exact bindL_at _ _ _ _ zipN (List.mem_of_getElem? hz) (by rw [eK, ← hn]; exact hk')
          · subst e
            exact bindC_at _ _ _ _ zipN (List.mem_of_getElem? hz) (by rw [eK, ← hn]; exact hk')
      ok := hok
      cells := fun i y e => by
        rw [eC]
        refine Option.isSome_iff_exists.mp (cellsFrom_has (.inl ?_))
        rw [hn]; exact (ok_var hok e).1
      cap := fun y z c h1 h2 => name_of_addr x.apart (mem_of_lookup h1) (mem_of_lookup h2)
      cL := fun y c h => Ne.symm (Nat.ne_of_lt (cA y c h))
      oL := fun a h => by rw [C.oa] at h; cases h
      dL := fun p e => ⟨Nat.ne_of_lt (dA p e).1, Nat.ne_of_lt (dA p e).2, (C.Kd p e).2.2, fun y c h => ⟨Ne.symm (Nat.ne_of_lt (Nat.lt_trans (dA p e).1 (cA y c h))), Ne.symm (Nat.ne_of_lt (Nat.lt_trans (dA p e).2 (cA y c h)))⟩,
        fun a h => by rw [C.oa] at h; cases h⟩
      own := C.oa
      oex := fun a h => by rw [C.oa] at h; cases h
      deck := C.deck.mono (.refl _) C.deck.none fun p a o _ _ e => x.toInCall.keep a o e }
    refine W.bind (W.any (wpAny_enterFrame (lim.keeps x.toInCall.keep) (by show A.in1.depth < _; exact hroom) ?_))
    refine W.pure ⟨rfl, rfl, WC.tree ?_⟩
    show W _ (A.deeper env) (do point; match ← (execs body env).onRaise (leaving env) with | .ret v => ret v | _ => ret .none) _ _
    refine W.bind (W.point (W.bind (W.onRaise ?_)))
    refine W.mono (hb.1 (A.deeper env) env G _ s' _ hA.deeper I' hq) fun f s'' h => ?_
    obtain ⟨fl, st', G', k1, k2, I'', S'⟩ := h
    have fin : CallInv B { G' with oa := none } st'.dk s'' ∧ CStep G s { G' with oa := none } s'' := by
      refine ⟨I''.callInv, ?_⟩
      obtain ⟨h₁, tk, hsame⟩ := x.toInCall.same
      have up : ∀ b, s'.heap.get? b = none → s.heap.get? b = none := fun b e => by
        cases hq : s.heap.get? b with
        | none => rfl
        | some o => rw [x.toInCall.keep b o hq] at e; cases e
      refine { same := ?_, le := ⟨S'.le.K, fun a h => (by rw [C.oa] at h; cases h), S'.le.dk⟩, kn := fun b h => ?_, dn := fun p e => ?_, keep := fun b o e hd => ?_, ex := fun b e => up b (S'.ex b e) }
      · obtain ⟨h₂, tk₂, e₂⟩ := S'.same
        exact ⟨h₂, tk₂, by rw [e₂, hsame]⟩
      · rcases S'.kn b h with h | h | h
        · exact .inl h
        · exact .inr (up b h)
        · rcases S'.on b h with h | h
          · rw [C.oa] at h; cases h
          · exact .inr (up b h)
      · exact (S'.dn p e).imp_right fun h => ⟨up _ h.1, up _ h.2⟩
      · refine S'.keep b o (x.toInCall.keep b o e) ?_
        have hb := hlt e
        rintro (u | ⟨_, y, u⟩ | u | ⟨p, hp, u⟩)
        · exact Nat.lt_irrefl _ (u ▸ hb)
        · exact Nat.lt_asymm hb (cA y b u)
        · rcases S'.on b u with u | u
          · rw [C.oa] at u; cases u
          · rw [up b u] at e; cases e
        · rcases S'.dn p hp with h | h
          · rcases u with u | u
            · exact (hd p h).1 u
            · exact (hd p h).2 u
          · rcases u with u | u
            · rw [u, up _ h.1] at e; cases e
            · rw [u, up _ h.2] at e; cases e
    cases fl with
    | next =>
      cases (show f = .next from k2)
      exact W.pure ⟨.none, st'.dk, _, k1, by simp [Val], fin.1, fin.2⟩
    | ret d =>
      obtain ⟨v, rfl, hv⟩ := k2
      exact W.pure ⟨d, st'.dk, _, k1.2, hv.unown k1.1, fin.1, fin.2⟩
end
end

section
theorem W.keep {α : Type} {M : Model} {A : Around} {s : Shared} {vs : List Value} {m : Sem α} {Q : α → Shared → Prop} (h : W M A m Q s) : W M A (m.keep vs) Q s := fun Γ p hΓ hc => by rw [Sem.wp_keep]; exact h Γ p hΓ hc

namespace C
section
variable {M : Model} {A : Around} {s : Shared} {env : Env}
theorem evalArgs_plain {f : Value} {x : Sem Value} {rest : List (Bool × Sem Value)} {Q : Args → Shared → Prop}
    (h : W M A (spliced ((false, x) :: rest)) (fun vs s' => Q ⟨vs, []⟩ s') s) : W M A (evalArgs f true ((false, x) :: rest) []) Q s := by
  unfold evalArgs
  show W M A (spliced ((false, x) :: rest) >>= _) Q s
  refine W.bind (W.mono h (fun vs s' h' => ?_))
  refine W.holding ?_
  exact W.bind (W.pure (W.bind (W.pure (W.pure h'))))
theorem evalArgs_none {f : Value} {Q : Args → Shared → Prop} (h : Q ⟨[], []⟩ s) : W M A (evalArgs f true [] []) Q s := by
  unfold evalArgs
  show W M A (spliced [] >>= _) Q s
  refine W.bind (spliced_nil ?_)
  refine W.bind (W.pure ?_)
  refine W.holding ?_
  exact W.bind (W.pure (W.bind (W.pure (W.pure h))))

theorem callWith_fn {pos : Pos} {a : Addr} {o : Obj} {fd : FuncData} {args : List (Bool × Sem Value)} {Q : Value → Shared → Prop}
    (h : W M A (evalArgs (.ref a) true args []) (fun x s₁ => (s₁.heap.get? a = some o ∧ o.data = .func fd) ∧ W M A (call (.ref a) x.pos x.kw) Q s₁) s) :
    W M A (callWith pos (.ref a) [] args []) Q s := by
  unfold callWith
  refine W.bind (W.holding (W.mono h (fun x s₁ h₁ => W.bind (W.standAt ?_))))
  have tail : ∀ {t : Sem Value}, W M A t Q s₁ → W M A (t >>= fun r => holding [r] point >>= fun _ => pure r) Q s₁ :=
    fun ht => W.bind (W.mono ht (fun r s₂ hr => W.bind (W.holding (W.point (W.pure hr)))))
  cases hs : args.any (·.1) <;> dsimp only [List.any_nil, Bool.or_false] <;>
    refine W.bind (m := keeperOf (.ref a)) ?_ <;> unfold keeperOf <;>
    refine W.bind (W.any (wpAny_load h₁.1.1 ?_)) <;> rw [h₁.1.2] <;> refine W.pure ?_
  · first
      | refine W.ite ?_
      | skip
    split <;> first
      | exact tail h₁.2
      | exact tail (by unfold callMarked; exact W.keep h₁.2)
  · first
      | exact tail (by unfold callMarked; exact W.keep h₁.2)
      | exact tail h₁.2

theorem callWith_plain {pos : Pos} {f : Value} {first : List Value} {args : List (Bool × Sem Value)} {Q : Value → Shared → Prop} (hf : keeperOf f = pure .machine) (hplain : args.any (·.1) = false)
    (h : W M A (evalArgs f true args []) (fun a s₁ => W M A (call f (first ++ a.pos) a.kw) Q s₁) s) :
    W M A (callWith pos f first args []) Q s := by
  unfold callWith
  refine W.bind (W.holding (W.mono h (fun a s₁ h₁ => W.bind (W.standAt ?_))))
  simp only [hplain, List.any_nil, Bool.or_false, hf]
  refine W.bind (W.pure ?_)
  exact W.bind (W.mono h₁ (fun r s₂ hr => W.bind (W.holding (W.point (W.pure hr)))))

theorem CallName {id : Str} {p pos : Pos} {args : List Expr} {Q : Value → Shared → Prop}
    (h : W M A (eval (.Name id p) env) (fun f s₁ => W M A (callWith pos f [] (backTo pos (starEach args env)) []) Q s₁) s) : W M A (eval (.Call (.Name id p) args [] pos) env) Q s := by
  rw [arm_eval_Call_Name']
  exact W.bind h
end
end C

section
variable {B : Base} {n : Nat} {Γ : Ctx} {env : Env} {G G' : Gh} {st : St} {s s' : Shared} {A : Around}

/-- a global constant -/
noncomputable def Cst (B : Base) (x : Str) (d : V) : Prop := ∃ v, B.mg x = some v ∧ ∀ G, Val G d v
theorem Ev.g (i : Nat) {x : Str} {pos : Pos} {d : V} (O : B.Ok) (h : Cst B x d) (hx : Γ.globs[i]? = some x := by rfl) : Ev B n Γ (.Name x pos) (cst d) := by
  refine ⟨?_⟩
  intro A env G st s Q hA I hf
  obtain ⟨v, h1, h2⟩ := h
  exact W.any (load_glob O I hx h1 (out hf (h2 G) I))

/-- a function of the module -/
noncomputable def FnN (B : Base) (n : Nat) (x : Str) (φ : Spec) : Prop := ∃ a o fd, B.mg x = some (.ref a) ∧ B.H.get? a = some o ∧ o.data = .func fd ∧ Fn B n (.ref a) φ
theorem FnN.mono {m : Nat} {x : Str} {φ : Spec} (h : FnN B n x φ) (hm : n ≤ m) : FnN B m x φ := by
  obtain ⟨a, o, fd, h1, h2, h3, h4⟩ := h
  exact ⟨a, o, fd, h1, h2, h3, fun A G s ds vs dk Q hA => h4 A G s ds vs dk Q (hA.mono hm)⟩

theorem Gh.eta {G : Gh} (h : G.oa = none) : G = { G with oa := none } := by
  cases G; cases h; rfl
noncomputable def callF (φ : Spec) (g : Ls) : Sm := fun st Q => g st fun ds st₁ => frees ds = true ∧ φ ds st₁.dk fun d dk => Q d { st₁ with dk := dk }

theorem plain_back : ∀ {es : List Expr} {pos : Pos} {env : Env}, (starEach es env).any (·.1) = false → (backTo pos (starEach es env)).any (·.1) = false := by
  intro es pos env h
  unfold backTo
  rw [List.any_map]
  exact h

theorem Ev.call {m : Nat} (i : Nat) {x : Str} {p pos : Pos} {e : Expr} {es : List Expr} {φ : Spec} {g : Ls} (O : B.Ok) (hf : FnN B m x φ) (hm : m ≤ n) (hg : Evs B n Γ (e :: es) g) (hx : Γ.globs[i]? = some x := by rfl)
    (hs : notStar e = true := by rfl) :
    Ev B n Γ (.Call (.Name x p) (e :: es) [] pos) (callF φ g) := by
  refine ⟨?_⟩
  intro A env G st s Q hA I hq
  obtain ⟨a, o, fd, h1, h2, h3, h4⟩ := hf
  refine C.CallName (W.any (load_glob O I hx h1 ?_))
  refine C.callWith_fn (o := o) (fd := fd) ?_
  have hargs := hg.1 pos A env G st s _ hA I hq
  dsimp only at hargs
  rw [star_cons hs] at hargs ⊢
  refine C.evalArgs_plain (W.mono hargs fun vs s₁ h => ?_)
  obtain ⟨ds, st₁, G₁, k1, k2, I₁, S₁⟩ := h
  refine ⟨⟨I₁.known _ _ (I₁.base _ _ h2), h3⟩, ?_⟩
  refine wp_from S₁ (W.mono (h4 A { G₁ with oa := Option.none } s₁ ds vs st₁.dk _ (hA.mono hm) I₁.callInv (k2.unown k1.1) k1.2) fun v s₂ h => ?_)
  obtain ⟨d, dk', G₂, j1, j2, j3, j4⟩ := h
  obtain ⟨I₂, S₂⟩ := I₁.called j3 j4
  refine ⟨d, _, _, j1, ?_, I₂, S₂⟩
  rw [Gh.eta j3.oa] at j2
  exact j2.reown

/-- a built-in in the kit's words -/
noncomputable def Prim (B : Base) (n : Nat) (f : Value) (φ : List V → St → (V → St → Prop) → Prop) : Prop :=
  ∀ (Γ : Ctx) (A : Around) (env : Env) (G : Gh) (st : St) (s : Shared) (ds : List V) (vs : List Value) (Q : V → St → Prop), Room n A → Inv B Γ env G st s → Vals G ds vs → φ ds st Q →
    W (model B.prog B.w) A (PySem.call f vs) (Out B Γ env G s Val Q) s
noncomputable def Blt (B : Base) (x : Str) (f : Value) : Prop := B.mg x = none ∧ B.mb x = some f
noncomputable def callP (φ : List V → St → (V → St → Prop) → Prop) (g : Ls) : Sm := fun st Q => g st fun ds st₁ => φ ds st₁ Q

theorem Ev.prim (i : Nat) {f : Value} {x : Str} {p pos : Pos} {e : Expr} {es : List Expr} {φ : List V → St → (V → St → Prop) → Prop} {g : Ls} (O : B.Ok) (hb : Blt B x f) (hf : Prim B n f φ) (hg : Evs B n Γ (e :: es) g) (hx : Γ.globs[i]? = some x := by rfl)
    (hk : keeperOf f = pure .machine := by rfl)
    (hpl : (e :: es).all notStar = true := by rfl) :
    Ev B n Γ (.Call (.Name x p) (e :: es) [] pos) (callP φ g) := by
  refine ⟨?_⟩
  intro A env G st s Q hA I hq
  refine C.CallName (W.any (load_blt O I hx hb.1 hb.2 ?_))
  refine C.callWith_plain hk (plain_back (star_plain hpl env)) ?_
  have hargs := hg.1 pos A env G st s _ hA I hq
  dsimp only at hargs
  rw [star_cons (by rw [List.all_cons, Bool.and_eq_true] at hpl; exact hpl.1)] at hargs ⊢
  refine C.evalArgs_plain (W.mono hargs fun vs s₁ h => ?_)
  obtain ⟨ds, st₁, G₁, k1, k2, I₁, S₁⟩ := h
  exact wp_from S₁ (hf Γ A env G₁ st₁ s₁ ds vs Q hA I₁ k2 k1)
theorem Ev.prim0 (i : Nat) {f : Value} {x : Str} {p pos : Pos} {φ : List V → St → (V → St → Prop) → Prop} (O : B.Ok) (hb : Blt B x f) (hf : Prim B n f φ) (hx : Γ.globs[i]? = some x := by rfl)
    (hk : keeperOf f = pure .machine := by rfl) :
    Ev B n Γ (.Call (.Name x p) [] [] pos) (φ []) := by
  refine ⟨?_⟩
  intro A env G st s Q hA I hq
  refine C.CallName (W.any (load_blt O I hx hb.1 hb.2 ?_))
  refine C.callWith_plain hk rfl ?_
  refine C.evalArgs_none ?_
  exact hf Γ A env G st s [] [] Q hA I (by simp [Vals]) hq

-- abs, len, max, min, int, bytes
noncomputable def lenP : List V → St → (V → St → Prop) → Prop := fun ds st Q => match ds with
  | [.byt b] => b.length ≤ 1099511627776 ∧ Q (.int b.length) st
  | [.lst xs] => xs.length ≤ 1099511627776 ∧ Q (.int xs.length) st
  | _ => False
theorem prim_len : Prim B n (.builtin "len") lenP := by
  intro Γ A env G st s ds vs Q hA I hv hq
  unfold lenP at hq
  split at hq
  · dsimp only [Vals] at hv
    obtain ⟨v, r, rfl, hv, rfl⟩ := hv
    dsimp only [Val] at hv
    obtain ⟨t, rfl⟩ := hv
    refine W.any (len_bytes (by simpa using hq.1) ?_)
    exact outT hq.2 (by simp [Val]) I
  · dsimp only [Vals] at hv
    obtain ⟨v, r, rfl, hv, rfl⟩ := hv
    dsimp only [Val] at hv
    obtain ⟨a, o, ws, m, rfl, h1, h2, h3, h4⟩ := hv
    have e := h4.length
    rw [Array.length_toList] at e
    refine W.any (len_list (items := ws) ⟨o, I.known _ _ h1, h2, m, h3⟩ (by rw [e]; lia) ?_)
    rw [e]
    exact outT hq.2 (by simp [Val]) I
  · exact hq.elim
noncomputable def absP : List V → St → (V → St → Prop) → Prop := fun ds st Q => match ds with
  | [.int a] => Q (.int a.natAbs) st
  | _ => False
theorem prim_abs : Prim B n (.builtin "abs") absP := by
  intro Γ A env G st s ds vs Q hA I hv hq
  unfold absP at hq
  split at hq
  · rename_i a
    dsimp only [Vals] at hv
    obtain ⟨v, r, rfl, hv, rfl⟩ := hv
    dsimp only [Val] at hv
    obtain ⟨t, rfl⟩ := hv
    refine W.any (call_abs_int fun u tk => ?_)
    have e : (if a < 0 then -a else a) = (a.natAbs : Int) := by split <;> lia
    rw [e]
    exact outT hq (by simp [Val]) I
  · exact hq.elim
noncomputable def maxP : List V → St → (V → St → Prop) → Prop := fun ds st Q => match ds with
  | [.int a, .int b] => Q (.int (max a b)) st
  | _ => False
noncomputable def minP : List V → St → (V → St → Prop) → Prop := fun ds st Q => match ds with
  | [.int a, .int b] => Q (.int (min a b)) st
  | _ => False
theorem prim_max : Prim B n (.builtin "max") maxP := by
  intro Γ A env G st s ds vs Q hA I hv hq
  unfold maxP at hq
  split at hq
  · rename_i a b
    dsimp only [Vals] at hv
    obtain ⟨v, r, rfl, hv, v', r', rfl, hv', rfl⟩ := hv
    dsimp only [Val] at hv hv'
    obtain ⟨t, rfl⟩ := hv
    obtain ⟨t', rfl⟩ := hv'
    refine W.any (max_two_ints hA.handled fun h' tk hk => outK hq ?_ I hk)
    dsimp only [Val]
    split
    · exact ⟨t', by rw [show max a b = b from by lia]⟩
    · exact ⟨t, by rw [show max a b = a from by lia]⟩
  · exact hq.elim
theorem prim_min : Prim B n (.builtin "min") minP := by
  intro Γ A env G st s ds vs Q hA I hv hq
  unfold minP at hq
  split at hq
  · rename_i a b
    dsimp only [Vals] at hv
    obtain ⟨v, r, rfl, hv, v', r', rfl, hv', rfl⟩ := hv
    dsimp only [Val] at hv hv'
    obtain ⟨t, rfl⟩ := hv
    obtain ⟨t', rfl⟩ := hv'
    refine W.any (min_two_ints hA.handled fun h' tk hk => outK hq ?_ I hk)
    dsimp only [Val]
    split
    · exact ⟨t', by rw [show min a b = b from by lia]⟩
    · exact ⟨t, by rw [show min a b = a from by lia]⟩
  · exact hq.elim
noncomputable def intP : List V → St → (V → St → Prop) → Prop := fun ds st Q => match ds with
  | [.int a] => Q (.int a) st
  | [.bool b] => Q (.int (if b then 1 else 0)) st
  | _ => False
theorem prim_int : Prim B n (.type "int") intP := by
  intro Γ A env G st s ds vs Q hA I hv hq
  unfold intP at hq
  split at hq
  · dsimp only [Vals] at hv
    obtain ⟨v, r, rfl, hv, rfl⟩ := hv
    dsimp only [Val] at hv
    obtain ⟨t, rfl⟩ := hv
    exact W.any (call_int_int (out hq (by simp [Val]) I))
  · dsimp only [Vals] at hv
    obtain ⟨v, r, rfl, hv, rfl⟩ := hv
    dsimp only [Val] at hv
    subst hv
    exact W.any (call_int_bool (outT hq (by simp [Val]) I))
  · exact hq.elim

/-- the numbers of a list of octets -/
noncomputable def octs : List V → (List UInt8 → Prop) → Prop
  | [], Q => Q []
  | .int i :: r, Q => (0 ≤ i ∧ i < 256) ∧ octs r fun b => Q (i.toNat.toUInt8 :: b)
  | _ :: _, _ => False
theorem octs_ok : ∀ {ds : List V} {vs : List Value} {Q : List UInt8 → Prop}, Vals G ds vs → octs ds Q → ∃ ns, IntsAre vs ns ∧ (∀ n ∈ ns, 0 ≤ n ∧ n < 256) ∧ Q (ns.map fun n => n.toNat.toUInt8)
  | [], vs, Q, hv, hq => by dsimp only [Vals] at hv; subst hv; exact ⟨[], .nil, fun _ h => (nomatch h), hq⟩
  | d :: ds, vs, Q, hv, hq => by
    dsimp only [Vals] at hv
    obtain ⟨v, r, rfl, h1, h2⟩ := hv
    cases d <;> first | exact False.elim hq | skip
    rename_i i
    dsimp only [Val] at h1
    obtain ⟨t, rfl⟩ := h1
    obtain ⟨ns, e1, e2, e3⟩ := octs_ok h2 hq.2
    refine ⟨i :: ns, .cons i t e1, fun n hn => ?_, e3⟩
    rcases List.mem_cons.mp hn with rfl | hn
    · exact hq.1
    · exact e2 n hn
noncomputable def bytesP : List V → St → (V → St → Prop) → Prop := fun ds st Q => match ds with
  | [.lst xs] => xs.length ≤ 1000000 ∧ octs xs fun b => Q (.byt b) st
  | _ => False
theorem prim_bytes : Prim B n (.type "bytes") bytesP := by
  intro Γ A env G st s ds vs Q hA I hv hq
  unfold bytesP at hq
  split at hq
  · rename_i xs
    dsimp only [Vals] at hv
    obtain ⟨v, r, rfl, hv, rfl⟩ := hv
    dsimp only [Val] at hv
    obtain ⟨a, o, ws, m, rfl, h1, h2, h3, h4⟩ := hv
    obtain ⟨ns, e1, e2, e3⟩ := octs_ok h4 hq.2
    have e := h4.length
    refine W.any (call_bytes_ints (l := a) (vs := ws.toList) ⟨o, I.known _ _ h1, h2, m, by simpa using h3⟩ e1 e2 (by rw [e]; exact line_le hq.1) hA.handled fun h' t k hk => ?_)
    exact outK e3 (by simp [Val, byteArr]) I hk
  · exact hq.elim
end
end

section
section
variable {B : Base} {n : Nat} {Γ : Ctx} {env : Env} {G G' : Gh} {st : St} {s s' : Shared} {A : Around}

theorem subscripted_ops (slice : Expr) (o i : Value) : ∃ ops, subscripted slice false o i = operate ops (getItem o i) := by
  unfold subscripted
  split
  · exact ⟨_, rfl⟩
  · rename_i h; cases h
  · exact ⟨_, rfl⟩
theorem tail_ok {value slice : Expr} {o i : Value} {T id : String} {prog : Program} {w : World} {Q : Value → Shared → Prop} (hT : s.TypeIs o T)
    (hl : typeLookup (.type T) "__getitem__" = pure (some (.builtin id))) (h : wpAny (model prog w) A (getItem o i) Q noE s) : wpAny (model prog w) A (subscriptTail value slice o i) Q noE s := by
  obtain ⟨ops, hs⟩ := subscripted_ops slice o i
  unfold subscriptTail
  refine wpAny_bind ?_
  rw [getitemInPython_of_ne hT.not_modules]
  refine wpAny_bind (wpAny_specialOf hT hl ?_)
  have fin : wpAny (model prog w) A (subscripted slice false o i) (fun r s₃ => wpAny (model prog w) A (letTemporaryGo value o r >>= fun _ => pure r) Q noE s₃) noE s := by
    rw [hs]
    exact wpAny_operating (wpAny_mono h (fun r s₃ h₃ => wpAny_bind (wpAny_letTemporaryGo (wpAny_pure h₃))) fun _ _ x => x)
  first
    | exact wpAny_pure (wpAny_bind fin)
    | exact wpAny_bind (wpAny_pure (wpAny_bind fin))
    | exact wpAny_bind fin

namespace C
theorem SubE {value slice : Expr} {pos : Pos} {M : Model} {Q : Value → Shared → Prop}
    (h : W M A (eval value env) (fun o s₁ => W M A (eval slice env) (fun i s₂ => W M A (subscriptTail value slice o i) Q s₂) s₁) s) : W M A (eval (.Subscript value slice pos) env) Q s := by
  rw [eval_Subscript]
  exact W.bind (W.mono h (fun o s₁ h₁ => W.bind (W.holding (W.mono h₁ (fun i s₂ h₂ => W.bind (W.standAt h₂))))))
theorem SliceE {l u t : Option Expr} {pos : Pos} {M : Model} {Q : Value → Shared → Prop}
    (h : W M A (evalPart l env) (fun a s₁ => W M A (evalPart u env) (fun b s₂ => W M A (evalPart t env) (fun c s₃ =>
      Q (.ref s₃.heap.objs.size) { s₃ with heap := s₃.heap.push { cls := .type "slice", data := .fields #[a, b, c] } }) s₂) s₁) s) : W M A (eval (.Slice l u t pos) env) Q s := by
  show W M A (do
    let l ← evalPart l env
    let u ← holding [l] (evalPart u env)
    let s ← holding [l, u] (evalPart t env)
    newFields "slice" [l, u, s]) Q s
  exact W.bind (W.mono h fun a s₁ h₁ => W.bind (W.holding (W.mono h₁ fun b s₂ h₂ => W.bind (W.holding (W.mono h₂ fun c s₃ h₃ => W.any (wpAny_newObj_type h₃))))))
end C

-- items
noncomputable def itemP (o i : V) (Q : V → Prop) : Prop := match o, i with
  | .byt b, .int k => (b.length ≤ 1099511627776 ∧ 0 ≤ k ∧ k < b.length) ∧ Q (.int (b.getD k.toNat 0).toNat)
  | .lst xs, .int k => (0 ≤ k ∧ k < 9223372036854775808) ∧ match xs[k.toNat]? with | some d => Q d | none => False
  | .tup xs, .int k => (0 ≤ k ∧ k < 9223372036854775808) ∧ match xs[k.toNat]? with | some d => Q d | none => False
  | _, _ => False
theorem item_ok {value slice : Expr} {o i : V} {vo vi : Value} {Q : V → St → Prop} (I : Inv B Γ env G st s) (ho : Val G o vo) (hi : Val G i vi) (hq : itemP o i fun d => Q d st) :
    wpAny (model B.prog B.w) A (subscriptTail value slice vo vi) (Out B Γ env G s Val Q) noE s := by
  unfold itemP at hq
  split at hq
  · simp only [Val] at ho hi
    obtain ⟨t, rfl⟩ := ho; obtain ⟨u, rfl⟩ := hi
    exact tail_ok (typeIs_bytes _ _ _) FB.slot_bytes_getitem.lookup (getItem_bytes hq.1.1 hq.1.2.1 hq.1.2.2 (outT hq.2 (by simp [Val]) I))
  · rename_i xs k
    simp only [Val] at ho hi
    obtain ⟨a, o, ws, m, rfl, h1, h2, h3, h4⟩ := ho; obtain ⟨u, rfl⟩ := hi
    obtain ⟨⟨k0, k1⟩, hq⟩ := hq
    cases hx : xs[k.toNat]? with
    | none => rw [hx] at hq; exact hq.elim
    | some d =>
      rw [hx] at hq
      obtain ⟨v, e1, e2⟩ := h4.at hx
      have hl : s.heap.IsList a ws := ⟨o, I.known _ _ h1, h2, m, h3⟩
      exact tail_ok hl.typeIs slot_list_getitem.lookup (wpAny_getItem_list hl k0 (by lia) (by simpa using e1) (out hq e2 I))
  · rename_i xs k
    simp only [Val] at ho hi
    obtain ⟨a, ws, m, rfl, h1, h4⟩ := ho; obtain ⟨u, rfl⟩ := hi
    obtain ⟨⟨k0, k1⟩, hq⟩ := hq
    cases hx : xs[k.toNat]? with
    | none => rw [hx] at hq; exact hq.elim
    | some d =>
      rw [hx] at hq
      obtain ⟨v, e1, e2⟩ := h4.at hx
      have hl : IsTup s.heap a ws := ⟨_, I.known _ _ h1, rfl, m, rfl⟩
      have hlt : k.toNat < ws.size := by
        have := (List.getElem?_eq_some_iff.mp e1).1
        simpa using this
      refine tail_ok hl.typeIs slot_tuple_getitem.lookup (getItem_tuple (j := k.toNat) hl (by lia) (by lia) ?_ (by simpa using e1) (out hq e2 I))
      unfold seqIndex?
      simp only [show ¬ k < 0 by lia, if_false]
      rw [if_pos (by simp; lia)]
  · exact hq.elim
noncomputable def item (f g : Sm) : Sm := fun st Q => f st fun o st₁ => g st₁ fun i st₂ => itemP o i fun d => Q d st₂
theorem Ev.item {value slice : Expr} {pos : Pos} {f g : Sm} (hf : Ev B n Γ value f) (hg : Ev B n Γ slice g) : Ev B n Γ (.Subscript value slice pos) (item f g) := by
  refine ⟨?_⟩
  intro A env G st s Q hA I hq
  refine C.SubE (W.mono (hf.1 A env G st s _ hA I hq) (fun a s₁ ⟨da, st₁, G₁, h1, h2, h3, h4⟩ => ?_))
  refine W.mono (hg.1 A env G₁ st₁ s₁ _ hA h3 h1) (fun b s₂ ⟨db, st₂, G₂, k1, k2, k3, k4⟩ => ?_)
  exact wp_from (h4.trans k4) (W.any (item_ok k3 (h2.mono k4.le) k2 k1))

-- slices
abbrev Pm := St → (Option Int → St → Prop) → Prop
structure Pt (B : Base) (n : Nat) (Γ : Ctx) (o : Option Expr) (f : Pm) : Prop where
  sat : Sat B n Γ (fun _ i v => IsPart v i) (fun env => evalPart o env) f
noncomputable def pN : Pm := fun st Q => Q none st
noncomputable def pI (f : Sm) : Pm := fun st Q => f st fun d st₁ => match d with | .int i => Q (some i) st₁ | _ => False
theorem Pt.noneone : Pt B n Γ none pN := by
  refine ⟨?_⟩
  intro A env G st s Q hA I hq
  exact W.pure ⟨Option.none, st, G, hq, .none, I, .refl G s⟩
theorem Pt.i {e : Expr} {f : Sm} (h : Ev B n Γ e f) : Pt B n Γ (some e) (pI f) := by
  refine ⟨?_⟩
  intro A env G st s Q hA I hq
  show W _ _ (eval e env) _ _
  refine W.mono (h.1 A env G st s _ hA I hq) (fun v s₁ ⟨d, st₁, G₁, h1, h2, h3, h4⟩ => ?_)
  cases d <;> first | exact False.elim h1 | skip
  rename_i i
  simp only [Val] at h2
  obtain ⟨t, rfl⟩ := h2
  exact ⟨some i, st₁, G₁, h1, .int i t, h3, h4⟩

noncomputable def cut {α : Type} (xs : List α) (lo hi : Option Int) : List α := (xs.drop (lo.elim 0 (clipAt xs.length))).take (hi.elim xs.length (clipAt xs.length) - lo.elim 0 (clipAt xs.length))

theorem Vals.drop : ∀ {ds : List V} {vs : List Value}, Vals G ds vs → ∀ k, Vals G (ds.drop k) (vs.drop k)
  | _, _, h, 0 => h
  | [], _, h, k + 1 => by simp only [Vals] at h; subst h; simp [Vals]
  | d :: ds, _, h, k + 1 => by
    simp only [Vals] at h
    obtain ⟨v, r, rfl, _, h2⟩ := h
    exact h2.drop k
theorem Vals.take : ∀ {ds : List V} {vs : List Value}, Vals G ds vs → ∀ k, Vals G (ds.take k) (vs.take k)
  | _, _, _, 0 => by simp [Vals]
  | [], _, h, k + 1 => by simp only [Vals] at h; subst h; simp [Vals]
  | d :: ds, _, h, k + 1 => by
    simp only [Vals] at h
    obtain ⟨v, r, rfl, h1, h2⟩ := h
    simp only [List.take_succ_cons, Vals]
    exact ⟨v, _, rfl, h1, h2.take k⟩
theorem Vals.cut {ds : List V} {ws : Array Value} (h : Vals G ds ws.toList) (lo hi : Option Int) : Vals G (Mine.cut ds lo hi) (slicePick ws lo hi none).toList := by
  have e := h.length
  rw [Array.length_toList] at e
  rw [slicePick_plain]
  unfold Mine.cut
  rw [← e]
  exact (h.drop _).take _

noncomputable def sliceP (o : V) (lo hi : Option Int) (Q : V → Prop) : Prop := match o with
  | .byt b => b.length ≤ 16777216 ∧ Q (.byt (cut b lo hi))
  | .lst xs => xs.length ≤ 1000000 ∧ Q (.lst (cut xs lo hi))
  | _ => False
theorem slice_ok {value slice : Expr} {o : V} {vo l u : Value} {lo hi : Option Int} {Q : V → St → Prop} (I : Inv B Γ env G st s) (ho : Val G o vo) (hl : IsPart l lo) (hu : IsPart u hi) (hq : sliceP o lo hi fun d => Q d st) :
    wpAny (model B.prog B.w) A (subscriptTail value slice vo (.ref s.heap.objs.size)) (Out B Γ env G s Val Q) noE { s with heap := s.heap.push { cls := .type "slice", data := .fields #[l, u, .none] } } := by
  unfold sliceP at hq
  split at hq
  · rename_i b
    simp only [Val] at ho
    obtain ⟨t, rfl⟩ := ho
    refine tail_ok (typeIs_bytes _ _ _) FB.slot_bytes_getitem.lookup (getItem_meets (typeIs_bytes _ _ _) (by decide) FB.slot_bytes_getitem FB.entry_bytes_getitem (FB.args_bytes_getitem_2 _ _) (KBc.meets_slice2 _ t _ hl hu)
      ⟨Heap.IsSliceOf.new _ _ _ _, Nat.le_trans (KBc.size_picked_le _ lo hi) (by rw [sizeLine_eq]; simpa using hq.1), fun t' k => ?_⟩)
    have e : KBy.picked b.toArray lo hi = (cut b lo hi).toArray := by rw [KBc.picked_eq]; simp [cut]
    rw [e]
    exact outK hq.2 (by simp [Val]) I fun b o h => Heap.get?_push_of_some _ h
  · rename_i xs
    simp only [Val] at ho
    obtain ⟨a, o, ws, m, rfl, h1, h2, h3, h4⟩ := ho
    have e := h4.length
    rw [Array.length_toList] at e
    have hl' : (s.heap.push { cls := .type "slice", data := .fields #[l, u, .none] }).IsList a ws := Heap.IsList.push ⟨o, I.known _ _ h1, h2, m, h3⟩ _
    have I₁ := I.keeps (tk := s.toks) (fun b o h => Heap.get?_push_of_some (o := { cls := .type "slice", data := .fields #[l, u, .none] }) (h := s.heap) h)
    have S₁ : Step Γ env G s G _ := Step.keeps (tk := s.toks) (fun b o h => Heap.get?_push_of_some (o := { cls := .type "slice", data := .fields #[l, u, .none] }) (h := s.heap) h)
    refine tail_ok (s := { s with heap := s.heap.push { cls := .type "slice", data := .fields #[l, u, .none] } }) hl'.typeIs list_getitem_lookup (wpAny_getItem_list_slice hl' (Heap.IsSliceOf.new ..) hl hu .none (by simp) ?_ (by rw [e]; exact line_le hq.1))
    obtain ⟨I', S'⟩ := I₁.alloc (o := { cls := .type "list", data := .seq (slicePick ws lo hi none) }) (tk := s.toks) rfl
    exact ⟨_, st, _, hq.2, by simp only [Val]; exact ⟨_, _, _, 0, rfl, know_at, rfl, rfl, (h4.cut lo hi).mono S'.le⟩, I', S₁.trans S'⟩
  · exact hq.elim
noncomputable def slc (f : Sm) (g h : Pm) : Sm := fun st Q => f st fun o st₁ => g st₁ fun lo st₂ => h st₂ fun hi st₃ => sliceP o lo hi fun d => Q d st₃
theorem Ev.slc {value : Expr} {lo hi : Option Expr} {pos p : Pos} {f : Sm} {g h : Pm} (hf : Ev B n Γ value f) (hg : Pt B n Γ lo g) (hh : Pt B n Γ hi h) : Ev B n Γ (.Subscript value (.Slice lo hi Option.none p) pos) (slc f g h) := by
  refine ⟨?_⟩
  intro A env G st s Q hA I hq
  refine C.SubE (W.mono (hf.1 A env G st s _ hA I hq) (fun a s₁ ⟨da, st₁, G₁, h1, h2, h3, h4⟩ => ?_))
  refine C.SliceE (W.mono (hg.1 A env G₁ st₁ s₁ _ hA h3 h1) (fun b s₂ ⟨db, st₂, G₂, k1, k2, k3, k4⟩ => ?_))
  refine W.mono (hh.1 A env G₂ st₂ s₂ _ hA k3 k1) (fun c s₃ ⟨dc, st₃, G₃, j1, j2, j3, j4⟩ => ?_)
  rw [evalPart_none]
  exact W.pure (wp_from ((h4.trans k4).trans j4) (W.any (slice_ok j3 (h2.mono (k4.le.trans j4.le)) k2 j2 j1)))
/-- [::-1] -/
noncomputable def rev (f : Sm) : Sm := fun st Q => f st fun o st₁ => match o with
  | .lst xs => xs.length ≤ 1000000 ∧ Q (.lst xs.reverse) st₁
  | .own => match st₁.own with
    | .live (.lst xs) => xs.length ≤ 1000000 ∧ Q (.lst xs.reverse) st₁
    | _ => False
  | _ => False
theorem Vals.reverse : ∀ {ds : List V} {vs : List Value}, Vals G ds vs → Vals G ds.reverse vs.reverse
  | [], _, h => by simp only [Vals] at h; subst h; simp [Vals]
  | d :: ds, _, h => by
    simp only [Vals] at h
    obtain ⟨v, r, rfl, h1, h2⟩ := h
    rw [List.reverse_cons, List.reverse_cons]
    exact h2.reverse.append (by simp only [Vals]; exact ⟨v, [], rfl, h1, rfl⟩)
theorem Ev.rev {value : Expr} {pos p q r : Pos} {k : Nat} {f : Sm} (hf : Ev B n Γ value f) : Ev B n Γ (.Subscript value (.Slice Option.none Option.none (some (.UnaryOp .USub (.Constant (.int 1) k r) q)) p) pos) (rev f) := by
  refine ⟨?_⟩
  intro A env G st s Q hA I hq
  refine C.SubE (W.mono (hf.1 A env G st s _ hA I hq) (fun a s₁ ⟨da, st₁, G₁, h1, h2, h3, h4⟩ => ?_))
  refine C.SliceE ?_
  rw [evalPart_none]
  refine W.pure (W.pure ?_)
  show W _ _ (eval (.UnaryOp .USub (.Constant (.int 1) k r) q) env) _ _
  refine W.mono ((Ev.neg (Ev.i 1)).1 A env G₁ st₁ s₁ (fun d st' => st' = st₁ ∧ d = .int (-1)) hA h3 ⟨rfl, rfl⟩) (fun c s₂ ⟨dc, st₂, G₂, k1, k2, k3, k4⟩ => ?_)
  obtain ⟨rfl, rfl⟩ := k1
  simp only [Val] at k2
  obtain ⟨t, rfl⟩ := k2
  have key : ∃ xs l ws, a = .ref l ∧ s₂.heap.IsList l ws ∧ Vals G₂ xs ws.toList ∧ xs.length ≤ 1000000 ∧ Q (.lst xs.reverse) st₂ := by
    cases da <;> first | exact False.elim h1 | skip
    · rename_i xs
      simp only [Val] at h2
      obtain ⟨a, o, ws, m, rfl, j1, j2, j3, j4⟩ := h2
      exact ⟨xs, a, ws, rfl, ⟨o, k3.known _ _ (k4.le.K _ _ j1), j2, m, j3⟩, j4.mono k4.le, h1⟩
    · simp only [Val] at h2
      obtain ⟨a, j1, rfl⟩ := h2
      have ho := k3.own
      dsimp only at h1
      cases hst : st₂.own with
      | fresh => rw [hst] at h1; exact h1.elim
      | dead => rw [hst] at h1; exact h1.elim
      | live c =>
        rw [hst] at h1 ho
        cases c with
        | byt b => exact h1.elim
        | lst xs =>
          obtain ⟨a', ws, e1, e2, e5⟩ := ho
          have := k4.le.oa _ j1
          rw [this] at e1
          cases e1
          exact ⟨xs, a, ws, rfl, e2.isList, e5, h1⟩
  obtain ⟨xs, l, ws, rfl, hl, hv, hz, hQ⟩ := key
  have e := hv.length
  rw [Array.length_toList] at e
  refine wp_from (h4.trans k4) ?_
  have hl' : (s₂.heap.push { cls := .type "slice", data := .fields #[.none, .none, .int (-1) t] }).IsList l ws := hl.push _
  have I₁ := k3.keeps (tk := s₂.toks) (fun b o h => Heap.get?_push_of_some (o := { cls := .type "slice", data := .fields #[.none, .none, .int (-1) t] }) (h := s₂.heap) h)
  have S₁ : Step Γ env G₂ s₂ G₂ _ := Step.keeps (tk := s₂.toks) (fun b o h => Heap.get?_push_of_some (o := { cls := .type "slice", data := .fields #[.none, .none, .int (-1) t] }) (h := s₂.heap) h)
  refine W.any (tail_ok (s := { s₂ with heap := s₂.heap.push { cls := .type "slice", data := .fields #[.none, .none, .int (-1) t] } }) hl'.typeIs list_getitem_lookup (wpAny_getItem_list_slice hl' (Heap.IsSliceOf.new ..) .none .none (.int (-1) t) (by simp) ?_ (by rw [e]; exact line_le hz)))
  obtain ⟨I', S'⟩ := I₁.alloc (o := { cls := .type "list", data := .seq (slicePick ws Option.none Option.none (some (-1))) }) (tk := s₂.toks) rfl
  refine ⟨_, st₂, _, hQ, ?_, I', S₁.trans S'⟩
  simp only [Val]
  refine ⟨_, _, _, 0, rfl, know_at, rfl, rfl, ?_⟩
  have e2 : (slicePick ws Option.none Option.none (some (-1))).toList = ws.toList.reverse := by rw [PySem.W.krv_pick]
  rw [e2]
  exact hv.reverse.mono S'.le
end
end

section
set_option maxRecDepth 100000
section
variable {prog : Program} {w : World} {A : Around} {s : Shared}
theorem WC.builtin {id : String} {args : Args} {b : Builtin} {R : Flow → Shared → Prop} (hb : entryFor table id = some b)
    (h : W (model prog w) (A.under (.builtin id args)) (b args) (fun fin s' => match fin with | .done f => R f s' | .again c' => c'.quiet = true ∧ okc c' = true ∧ WC (model prog w) A c' R s') s) :
    WC (model prog w) A (.builtin id args) R s := by
  refine WC.tree ?_
  show W _ _ (match entryFor table id with | some b => b args | none => unsupported ((withoutEnding? id "#data").getD id)) _ s
  rw [hb]
  exact h
/-- a call of a built-in's own code -/
theorem W.call_entry {T : String} {name : Str} {id : String} {b : Builtin} {self : Value} {rest : List Value} {Q : Value → Shared → Prop} (h : Slot T name id) (hT : s.TypeIs self T)
    (hb : entryFor table id = some b) (hok : badIds.contains id = false) (ha : argsOk id ⟨self :: rest, []⟩)
    (hc : W (model prog w) A.in1 (b ⟨self :: rest, []⟩) (fun fin s' => ∃ v, fin = .done (.ret v) ∧ Q v s') s) :
    W (model prog w) A (PySem.call (.builtin id) (self :: rest)) Q s := by
  unfold PySem.call
  refine W.call (WC.tree ?_)
  show W _ A.in1 (do checkBuiltinCall id ⟨self :: rest, []⟩; again (.builtin id ⟨self :: rest, []⟩)) _ s
  refine W.bind (W.any (h.check _ _ _ _ _ _ _ _ hT ha ?_))
  refine W.pure ⟨plainId_quiet h.plain _, by show (!badIds.contains id) = true; rw [hok]; rfl, WC.tree ?_⟩
  rw [Around.under_plainId h.plain _]
  show W _ _ (match entryFor table id with | some b => b ⟨self :: rest, []⟩ | none => unsupported ((withoutEnding? id "#data").getD id)) _ s
  rw [hb]
  refine W.mono hc fun fin s' h' => ?_
  obtain ⟨v, rfl, hv⟩ := h'
  exact hv
end
namespace BA
open Builtin
noncomputable def T : String := "bytearray"
theorem slot_append : Slot "bytearray" "append" "bytearray.append" :=
  .of (owner := "bytearray") (n := "append") (by rw [typeLookup_type, builtinLookup_eq_fast]; kernel_rfl) (by decide +kernel) (by decide +kernel) (by decide +kernel)
    (by first | exact .inl (by decide +kernel) | exact .inr (by decide +kernel)) (by rw [isSubtype_type]; kernel_rfl)
theorem slot_iadd : Slot "bytearray" "__iadd__" "bytearray.__iadd__" :=
  .of (owner := "bytearray") (n := "__iadd__") (by rw [typeLookup_type, builtinLookup_eq_fast]; kernel_rfl) (by decide +kernel) (by decide +kernel) (by decide +kernel)
    (by first | exact .inl (by decide +kernel) | exact .inr (by decide +kernel)) (by rw [isSubtype_type]; kernel_rfl)
theorem slot_len : Slot "bytearray" "__len__" "bytearray.__len__" :=
  .of (owner := "bytearray") (n := "__len__") (by rw [typeLookup_type, builtinLookup_eq_fast]; kernel_rfl) (by decide +kernel) (by decide +kernel) (by decide +kernel)
    (by first | exact .inl (by decide +kernel) | exact .inr (by decide +kernel)) (by rw [isSubtype_type]; kernel_rfl)
theorem entry_append : entryFor table "bytearray.append" = some Builtin.«bytearray.append» := by first | exact entryFor_of_fast (by kernel_rfl) | exact entryFor_of_tree (by kernel_rfl)
theorem entry_iadd : entryFor table "bytearray.__iadd__" = some Builtin.«bytearray.__iadd__» := by first | exact entryFor_of_fast (by kernel_rfl) | exact entryFor_of_tree (by kernel_rfl)
theorem entry_len : entryFor table "bytearray.__len__" = some Builtin.«bytearray.__len__» := by first | exact entryFor_of_fast (by kernel_rfl) | exact entryFor_of_tree (by kernel_rfl)
theorem args_append (a b : Value) : argsOk "bytearray.append" ⟨[a, b], []⟩ := by
  unfold argsOk; rw [signature?_of (id := "bytearray.append") (n := ['d', 'n', 'e', 'p', 'p', 'a']) (o := ['y', 'a', 'r', 'r', 'a', 'e', 't', 'y', 'b']) (by kernel_rfl) owner]; kernel_rfl
theorem args_iadd (a b : Value) : argsOk "bytearray.__iadd__" ⟨[a, b], []⟩ := by
  unfold argsOk; rw [signature?_of (id := "bytearray.__iadd__") (n := ['_', '_', 'd', 'd', 'a', 'i', '_', '_']) (o := ['y', 'a', 'r', 'r', 'a', 'e', 't', 'y', 'b']) (by kernel_rfl) owner]; kernel_rfl
theorem args_len (a : Value) : argsOk "bytearray.__len__" ⟨[a], []⟩ := by
  unfold argsOk; rw [signature?_of (id := "bytearray.__len__") (n := ['_', '_', 'n', 'e', 'l', '_', '_']) (o := ['y', 'a', 'r', 'r', 'a', 'e', 't', 'y', 'b']) (by kernel_rfl) owner]; kernel_rfl
theorem type_append : typeOf (.builtin "bytearray.append") = pure (.type "method_descriptor") := by show builtinType _ = _; rw [builtinType_eq_fast]; kernel_rfl
theorem plainAttrs : PlainAttrs "bytearray" := by
  exact ⟨⟨"bytearray.__getattribute__", by rw [typeLookup_type, builtinLookup_eq_fast]; kernel_rfl, by decide +kernel⟩, by rw [typeLookup_type, builtinLookup_eq_fast]; kernel_rfl⟩
theorem no_radd : typeLookup (.type "bytearray") (dunderR "add") = pure none := by rw [typeLookup_type, builtinLookup_eq_fast]; kernel_rfl
theorem look_add : typeLookup (.type "bytearray") (dunder "add") = pure (some (.builtin "bytearray.__add__")) := by rw [typeLookup_type, builtinLookup_eq_fast]; kernel_rfl
theorem noFill_add : fillsNumberSlot (.type "bytearray") "add" = pure false := PySem.fillsNumberSlot_seq (id := "bytearray.__add__") (r := none) look_add (by decide +kernel) no_radd rfl
theorem noFillI : fillsInplaceSlot (.type "bytearray") "add" (Operator.Add == .Add) = pure false := by
  unfold fillsInplaceSlot
  show (typeLookup (.type "bytearray") (dunderI "add") >>= fun fi => pure (fi.isSome && !isSeqSlot fi)) = pure false
  rw [show typeLookup (.type "bytearray") (dunderI "add") = pure (some (.builtin "bytearray.__iadd__")) from slot_iadd.lookup]
  show (pure ((some (Value.builtin "bytearray.__iadd__")).isSome && !isSeqSlot (some (.builtin "bytearray.__iadd__"))) : Sem Bool) = pure false
  rw [show isSeqSlot (some (.builtin "bytearray.__iadd__")) = true from by decide +kernel]
  rfl
theorem seq_iadd : seqSlot? (.type "bytearray") (dunderI "add") = pure (some (.builtin "bytearray.__iadd__")) := PySem.seqSlot_of slot_iadd.lookup (by decide +kernel)
theorem look_bytes : typeLookup (.type "bytearray") "__bytes__" = pure none := by rw [typeLookup_type, builtinLookup_eq_fast]; kernel_rfl
theorem look_index : typeLookup (.type "bytearray") "__index__" = pure none := by rw [typeLookup_type, builtinLookup_eq_fast]; kernel_rfl
theorem look_buffer : typeLookup (.type "bytearray") "__buffer__" = pure (some (.builtin "bytearray.__buffer__")) := by rw [typeLookup_type, builtinLookup_eq_fast]; kernel_rfl
theorem sub_bytes : isSubtype (.type "bytearray") (.type "bytes") = pure false := by rw [isSubtype_type]; kernel_rfl
theorem sub_str : isSubtype (.type "bytearray") (.type "str") = pure false := by rw [isSubtype_type]; kernel_rfl

section
variable {prog : Program} {w : World} {A : Around} {E : Value → Shared → Prop} {s : Shared} {a : Addr} {b : Array UInt8} {M : Model}

theorem typeIs (h : s.heap.get? a = some (obj b)) : s.TypeIs (.ref a) "bytearray" := ⟨_, h, rfl⟩
theorem write_ok {f : Array UInt8 → Array UInt8} {Q : Unit → Shared → Prop} (ha : s.heap.get? a = some (obj b)) (hz : (f b).size ≤ sizeLine)
    (h : ∀ h', h'.get? a = some (obj (f b)) → Heap.SameBut a s.heap h' → Q () { s with heap := h' }) : wpAny M A (Bytes.write (.ref a) f) Q E s := by
  show wpAny _ _ (updateBytearray a f) _ _ _
  unfold updateBytearray
  refine wpAny_bind (wpAny_load ha ?_)
  show wpAny _ _ (update a (Obj.mapBytearray f) >>= fun _ => lookBehind a) _ _ _
  refine wpAny_bind (wpAny_update ha ?_)
  have h₂ : (s.heap.update a (Obj.mapBytearray f)).get? a = some (obj (f b)) := Heap.get?_update_self (Obj.mapBytearray f) ha rfl
  refine wpAny_lookBehind h₂ ?_ (h _ h₂ (Heap.SameBut.update ..))
  show (if (f b).size > sizeLine then some "bytearray:memory" else none) = none
  rw [if_neg (by lia)]
theorem payload_ok {Q : Array UInt8 → Shared → Prop} (ha : s.heap.get? a = some (obj b)) (h : Q b s) : wpAny M A (Bytes.payload (.ref a)) Q E s := by
  unfold Bytes.payload Bytes.payload?
  refine wpAny_bind (wpAny_bind (wpAny_load ha ?_))
  exact wpAny_pure (wpAny_pure h)
theorem exports_ok {Q : Nat → Shared → Prop} (ha : s.heap.get? a = some (obj b)) (h : Q 0 s) : wpAny M A (Bytes.exportsOf (.ref a)) Q E s := by
  unfold Bytes.exportsOf
  exact wpAny_bind (wpAny_load ha (wpAny_pure h))
theorem free_ok {Q : Bool → Shared → Prop} (ha : s.heap.get? a = some (obj b)) (h : Q false s) : W M A (Bytes.exported (.ref a) <||> (do return (← Bytes.exportsOf (.ref a)) > 0)) Q s := by
  unfold orM
  refine W.bind (exported_ok ?_)
  refine W.bind (W.any (exports_ok ha ?_))
  exact W.pure h
theorem resize_ok {Q : Unit → Shared → Prop} (ha : s.heap.get? a = some (obj b)) (h : Q () s) : W M A (Bytes.checkResize (.ref a)) Q s := by
  unfold Bytes.checkResize
  refine W.bind (free_ok ha ?_)
  exact W.pure h
theorem special {name : Str} {r : Option Value} {Q : Option Value → Shared → Prop} (ha : s.heap.get? a = some (obj b)) (hl : typeLookup (.type "bytearray") name = pure r) (h : Q r s) : wpAny M A (specialOf (.ref a) name) Q E s :=
  wpAny_specialOf (typeIs ha) hl h
theorem own_release {Q : Bool → Shared → Prop} (ha : s.heap.get? a = some (obj b)) (h : Q false s) : wpAny M A (Bytes.ownRelease (.ref a)) Q E s := by
  unfold Bytes.ownRelease Bytes.slotIsOwn
  refine wpAny_bind (wpAny_bind (special ha (name := Str.ofString "__release_buffer__") look_release ?_))
  refine bm_if_false (by decide +kernel) ?_
  have e : ("bytearray.__release_buffer__".dropRight ("__release_buffer__".length + 1)) = "bytearray" := by decide +kernel
  refine wpAny_isInstance (T := "bytearray") (b := true) (typeIs ha) (by rw [e]; exact sub_self) ?_
  exact wpAny_pure h

theorem append_ok {x : Int} {t : Tok} {Q : Value → Shared → Prop} (ha : s.heap.get? a = some (obj b)) (h0 : 0 ≤ x) (h1 : x < 256) (hz : b.size + 1 ≤ sizeLine)
    (h : ∀ h', h'.get? a = some (obj (b.push x.toNat.toUInt8)) → Heap.SameBut a s.heap h' → Q .none { s with heap := h' }) :
    W (model prog w) A (PySem.call (.builtin "bytearray.append") [.ref a, .int x t]) Q s := by
  refine W.call_entry slot_append (typeIs ha) entry_append (by decide +kernel) (args_append _ _) ?_
  show W _ A.in1 (Bytes.byteValue (.int x t) >>= fun c => Bytes.checkResize (.ref a) >>= fun _ => Bytes.write (.ref a) (·.push c) >>= fun _ => ret .none) _ s
  refine W.bind (Q := _) ?_
  unfold Bytes.byteValue
  refine W.bind (W.eq (a := x) rfl ?_)
  rw [if_neg (by simp; lia)]
  refine W.pure (W.bind (resize_ok ha ?_))
  refine W.bind (W.any (write_ok ha (by simpa using hz) fun h' e1 e2 => ?_))
  exact W.pure ⟨.none, rfl, h h' e1 e2⟩

theorem iadd_ok {c : Array UInt8} {t : Tok} {Q : Value → Shared → Prop} (ha : s.heap.get? a = some (obj b)) (hz : b.size + c.size ≤ 16777216)
    (h : ∀ h', h'.get? a = some (obj (b ++ c)) → Heap.SameBut a s.heap h' → Q (.ref a) { s with heap := h' }) :
    W (model prog w) A (inplaceOp .Add (.ref a) (.bytes c t)) Q s := by
  unfold inplaceOp
  refine W.holding ?_
  refine W.bind (W.any (wpAny_typeOf (typeIs ha) ?_))
  refine W.bind (W.eq noFillI ?_)
  show W _ A (if false = true then _ else _) Q s
  rw [if_neg Bool.false_ne_true]
  refine W.bind ?_
  have k1 : W (model prog w) A (binaryOp1 "add" (.ref a) (.bytes c t)) (fun r s' => r = none ∧ s' = s) s := by
    dsimp only [binaryOp1]
    refine W.bind (W.any (wpAny_typeOf (typeIs ha) ?_))
    refine W.bind (W.any (wpAny_typeOf (typeIs_bytes s c t) ?_))
    refine W.bind (W.eq noFill_add ?_)
    rw [if_neg (by decide)]
    refine W.bind (W.eq KBy.noFill_bytes_add ?_)
    exact W.pure ⟨rfl, rfl⟩
  refine W.mono k1 fun r s' hr => ?_
  obtain ⟨rfl, rfl⟩ := hr
  refine W.bind (W.eq seq_iadd ?_)
  refine W.bind (W.rule ?_)
  refine W.call_entry slot_iadd (typeIs ha) entry_iadd (by decide +kernel) (args_iadd _ _) ?_
  show W _ A.in1 (Bytes.takeBufferQuiet? "bytearray.__iadd__" (.bytes c t) 0 >>= fun r => _) _ s'
  refine W.bind (W.any (take_ok ?_))
  show W _ A.in1 (Bytes.thenGiveBack none _) _ s'
  unfold Bytes.thenGiveBack
  dsimp only
  have fin : W (model prog w) A.in1 (do
      if Bytes.tooLong ((← Bytes.payload (.ref a)).size + c.size) then unsupported "bytearray.__iadd__:memory"
      Bytes.write (.ref a) (· ++ c)
      ret (.ref a)) (fun fin s' => ∃ v, fin = .done (.ret v) ∧ Q v s') s' := by
    refine W.bind (W.any (payload_ok ha ?_))
    rw [KBy.tooLong_not hz]
    refine W.bind (W.any (write_ok ha (by rw [Array.size_append, sizeLine_eq]; exact hz) fun h' e1 e2 => ?_))
    exact W.pure ⟨_, rfl, h h' e1 e2⟩
  cases hc : c.isEmpty with
  | true => exact fin
  | false => exact W.bind (resize_ok ha fin)

theorem len_ok {Q : Value → Shared → Prop} (ha : s.heap.get? a = some (obj b)) (hz : b.size ≤ 16777216) (h : ∀ t k, Q (.int b.size t) { s with toks := k }) :
    W (model prog w) A (PySem.call (.builtin "len") [.ref a]) Q s := by
  refine W.any (PyProof.Rows.call_len_slot (n := b.size) (typeIs ha) slot_len (fun Q' hq => wpAny_call_entry slot_len (typeIs ha) entry_len ?_ (args_len _)) (by lia) (by lia) (h _ _))
  show wpAny _ _ (Bytes.payload (.ref a) >>= fun r => retInt r.size) _ _ s
  refine wpAny_bind (payload_ok ha ?_)
  exact wpAny_bind (wpAny_mkInt (wpAny_pure ⟨_, rfl, hq⟩))

theorem code_bytes {Q : Value → Shared → Prop} (ha : s.heap.get? a = some (obj b)) (hz : b.size ≤ sizeLine) (hQ : ∀ t k, Q (.bytes b t) { s with toks := k }) :
    codeAny (model prog w) A (.call (.builtin "bytes.__new__") ⟨[.type "bytes", .ref a], []⟩) (wants Q E) s := by
  refine codeAny_of_tree ?_
  show wpAny _ A.in1 (do checkBuiltinCall "bytes.__new__" ⟨[.type "bytes", .ref a], []⟩; again (.builtin "bytes.__new__" ⟨[.type "bytes", .ref a], []⟩)) _ _ s
  refine wpAny_bind (wpAny_of_eq (PySem.F.bm_newCall _) (wpAny_pure ⟨plainId_quiet PySem.F.bm_plain _, codeAny_builtin PySem.F.bm_entry ?_⟩))
  rw [Around.under_plainId PySem.F.bm_plain _]
  have hT : s.TypeIs (.ref a) "bytearray" := typeIs ha
  unfold Builtin.«bytes.__new__»
  refine wpAny_bind (wpAny_of_eq (a := true) rfl ?_)
  refine bm_if_false rfl ?_
  refine wpAny_bind (wpAny_of_eq PySem.F.bm_sub ?_)
  refine bm_if_false rfl ?_
  refine wpAny_bind (wpAny_of_eq (PySem.F.bm_bind _) ?_)
  refine wpAny_bind (wpAny_of_eq (a := ()) rfl ?_)
  refine wpAny_bind (wpAny_of_eq (a := ()) rfl ?_)
  refine bm_if_false rfl ?_
  refine wpAny_bind (wpAny_specialOf hT look_bytes ?_)
  refine wpAny_bind (wpAny_bind ?_)
  show wpAny _ _ (load a >>= _) _ _ _
  refine wpAny_bind (wpAny_load ha ?_)
  refine wpAny_pure (wpAny_pure ?_)
  refine bm_if_false rfl ?_
  refine wpAny_bind (wpAny_specialOf hT look_index ?_)
  refine bm_if_true rfl ?_
  first
    | show wpAny _ _ (Builtin.Bytes.buffer? "bytes.__new__" (.ref a) true >>= _) _ _ _
    | (refine wpAny_bind ?_; show wpAny _ _ (Builtin.Bytes.buffer? "bytes.__new__" (.ref a) true >>= _) _ _ _)
  refine wpAny_bind ?_
  unfold Builtin.Bytes.buffer?
  refine wpAny_bind (wpAny_specialOf hT look_buffer ?_)
  refine wpAny_bind ?_
  unfold Bytes.slotIsOwn
  refine wpAny_bind (wpAny_specialOf hT (name := Str.ofString "__buffer__") look_buffer ?_)
  refine bm_if_false (by decide +kernel) ?_
  have e : ("bytearray.__buffer__".dropRight ("__buffer__".length + 1)) = "bytearray" := by decide +kernel
  refine wpAny_isInstance (T := "bytearray") (b := true) hT (by rw [e]; exact sub_self) ?_
  refine bm_if_false rfl ?_
  refine wpAny_bind (wpAny_specialOf hT look_buffer ?_)
  refine wpAny_bind (own_release ha ?_)
  refine bm_if_false rfl ?_
  refine wpAny_bind (payload_ok ha ?_)
  refine wpAny_pure ?_
  refine wpAny_bind (wpAny_rule ?_)
  refine wpAny_bind (wpAny_mkBytes ?_ hz)
  refine bm_if_true (by decide) ?_
  first
    | exact wpAny_pure (hQ _ _)
    | exact wpAny_bind (wpAny_pure (wpAny_pure (hQ _ _)))

theorem bytes_ok {Q : Value → Shared → Prop} (ha : s.heap.get? a = some (obj b)) (hz : b.size ≤ sizeLine) (hQ : ∀ t k, Q (.bytes b t) { s with toks := k }) :
    wpAny (model prog w) A (PySem.call (.type "bytes") [.ref a]) Q E s := by
  refine callType_codes (Q₁ := fun obj s₁ => s₁.TypeIs obj "bytes" ∧ Q obj s₁) PySem.F.bm_called (PySem.F.bm_typeCall _) PySem.F.entry_object_init
    (code_bytes ha hz fun t k => ⟨PySem.W.typeIs_bytes _ _ _, hQ t k⟩) fun obj s₁ h₁ => ?_
  exact ⟨h₁.1, PySem.F.args_object_init_2 obj _, object_init_meets PySem.F.bm_called.init.lookup PySem.F.bm_called.made (by decide) prog w A.in1 _ s₁ ⟨h₁.1, rfl, h₁.2⟩⟩

theorem W.if_false {α : Type} {c : Bool} {x y : Sem α} {Q : α → Shared → Prop} (hc : c = false) (h : W M A y Q s) : W M A (if c = true then x else y) Q s := by
  subst hc
  exact h

theorem bind_0 : Bytes.bindOptional "bytearray.__init__" "bytearray" ["source", "encoding", "errors"] [] [] = pure [none, none, none] := by kernel_rfl
theorem init_ok {Q : Value → Shared → Prop} (ha : s.heap.get? a = some (obj #[]))
    (h : ∀ h', h'.get? a = some (obj #[]) → Heap.SameBut a s.heap h' → Q .none { s with heap := h' }) :
    W (model prog w) A (PySem.call (.builtin "bytearray.__init__") [.ref a]) Q s := by
  refine W.call_entry slot_init (typeIs ha) entry_init (by decide +kernel) (args_init_0 _) ?_
  unfold Builtin.«bytearray.__init__»
  refine W.bind (W.any (own_release ha ?_))
  refine W.if_false rfl ?_
  refine W.bind (W.eq bind_0 ?_)
  refine W.bind (W.eq (a := ()) rfl ?_)
  refine W.bind (W.eq (a := ()) rfl ?_)
  refine W.bind (free_ok ha ?_)
  refine W.if_false rfl ?_
  refine W.bind (W.any (write_ok ha (Nat.zero_le _) fun h' e1 e2 => ?_))
  refine W.bind (W.eq (a := ()) rfl ?_)
  exact W.pure ⟨.none, rfl, h h' e1 e2⟩
theorem new_ok {Q : Value → Shared → Prop} (h : ∀ h', h'.get? s.heap.objs.size = some (obj #[]) → (∀ b o, s.heap.get? b = some o → h'.get? b = some o) → Q (.ref s.heap.objs.size) { s with heap := h' }) :
    W (model prog w) A (PySem.call (.type "bytearray") []) Q s := by
  have h2 := called.canCreate
  unfold PySem.call
  refine W.call (WC.tree ?_)
  show W _ A.in1 (again (.builtin "type.__call__" ⟨[.type "bytearray"], []⟩)) _ s
  refine W.pure ⟨Code.quiet_builtin _ (by decide +kernel), by decide +kernel, WC.builtin PySem.F.entry_type_call ?_⟩
  rw [Around.under_plain (weight_type_call_type "bytearray" [] []) rfl]
  unfold Builtin.«type.__call__»
  refine W.if_false (called.notType) ?_
  dsimp only
  refine W.if_false h2 ?_
  refine W.bind (W.eq typeCall_0 ?_)
  refine W.bind (W.eq mro_ba ?_)
  refine W.if_false rfl ?_
  refine W.bind (W.eq called.made ?_)
  refine W.bind (W.pure ?_)
  have k1 : wpAny (model prog w) A.in1 (PySem.call (.builtin "bytearray.__new__") [.type "bytearray"]) (fun v s' => v = .ref s.heap.objs.size ∧ s' = { s with heap := s.heap.push (obj #[]) }) noE s :=
    wpAny_call (code_new (E := noE) (Q₁ := fun v s' => v = .ref s.heap.objs.size ∧ s' = { s with heap := s.heap.push (obj #[]) }) ⟨rfl, rfl⟩)
  refine W.bind (W.holding (W.mono (W.any k1) fun v s' hv => ?_))
  obtain ⟨rfl, rfl⟩ := hv
  have hnew : (s.heap.push (obj #[])).get? s.heap.objs.size = some (obj #[]) := Heap.get?_push_size _ rfl
  have hT : ({ s with heap := s.heap.push (obj #[]) } : Shared).TypeIs (.ref s.heap.objs.size) "bytearray" := typeIs (s := { s with heap := s.heap.push (obj #[]) }) hnew
  refine W.bind (W.any (wpAny_isInstance hT sub_self ?_))
  refine W.if_false rfl ?_
  refine W.bind (W.holding ?_)
  unfold callSpecial?
  refine W.bind (W.any (wpAny_specialOf hT slot_init.lookup ?_))
  dsimp only
  refine W.holding ?_
  rw [slot_init.bind]
  refine W.bind (W.pure ?_)
  refine W.bind (init_ok (s := { s with heap := s.heap.push (obj #[]) }) hnew fun h' e1 e2 => ?_)
  refine W.pure ?_
  dsimp only
  refine W.if_false rfl ?_
  refine W.pure (h h' e1 fun b o e => e2.extBut b o (Nat.ne_of_lt (Heap.lt_size e)) (Heap.get?_push_of_some _ e))
end
end BA
end

section
section
variable {B : Base} {n : Nat} {Γ : Ctx} {env : Env} {G G' : Gh} {st : St} {s s' : Shared} {A : Around}

theorem OwnInv.ex {h : Heap} {a : Addr} {c : OwnC} (x : OwnInv G h (.live c)) (ha : G.oa = some a) : ∃ o, h.get? a = some o := by
  cases c with
  | lst ds => obtain ⟨a', ws, e1, ⟨n, e2⟩, e5⟩ := x; rw [ha] at e1; cases e1; exact ⟨_, e2⟩
  | byt b => obtain ⟨a', e1, e2⟩ := x; rw [ha] at e1; cases e1; exact ⟨_, e2⟩

theorem Inv.own_set (I : Inv B Γ env G st s) {a : Addr} (ha : G.oa = some a) {c c' : OwnC} (hl : st.own = .live c) {h' : Heap} {tk : Nat}
    (hk : ∀ b o, b ≠ a → s.heap.get? b = some o → h'.get? b = some o) (ho : OwnInv G h' (.live c')) :
    Inv B Γ env G { st with own := .live c' } { s with heap := h', toks := tk } ∧ Step Γ env G s G { s with heap := h', toks := tk } := by
  obtain ⟨oo, hoo⟩ := ho.ex ha
  refine ⟨{
    kind := I.kind
    names := I.names
    globals := I.globals
    builtins := I.builtins
    base := I.base
    known := fun b o e => hk b o (fun x => by rw [x, I.Ko c hl a ha] at e; cases e) (I.known b o e)
    KL := I.KL
    Kc := I.Kc
    Ko := fun _ _ b hb => I.Ko c hl b hb
    Kd := I.Kd
    ns := ?_
    ok := I.ok
    cells := I.cells
    cap := I.cap
    cL := I.cL
    oL := I.oL
    dL := I.dL
    own := ho
    oex := fun b e => ?_
    deck := I.deck.mono (.refl _) I.deck.none fun p b o e u e2 => hk b o (by rcases u with rfl | rfl; exact Ne.symm ((I.dL p e).2.2.2.2 a ha).1; exact Ne.symm ((I.dL p e).2.2.2.2 a ha).2) e2 }, ?_⟩
  · obtain ⟨m, cm, h1, h2, h3⟩ := I.ns
    exact ⟨m, cm, h1.at' fun o e => hk _ o (Ne.symm (I.oL a ha).1) e, fun x c e => by
      obtain ⟨o, ho, hd⟩ := h2 x c e
      exact ⟨o, hk c o ((I.oL a ha).2 x c e) ho, hd⟩, h3⟩
  · rw [ha] at e; cases e
    show h'.get? a ≠ none
    rw [hoo]; exact fun x => nomatch x
  · exact (Step.refl G s).chg (.inr (.inr (.inr (.inl ha)))) hk (by rw [hoo]; exact fun x => nomatch x)

theorem Gle.own {a : Addr} (h : G.oa = none) : Gle G { G with oa := some a } := ⟨fun _ _ e => e, fun b e => (by rw [h] at e; cases e), fun _ e => e⟩

theorem Inv.own_new (I : Inv B Γ env G st s) (hf : st.own = .fresh) {a : Addr} (hn : s.heap.get? a = none) {h' : Heap} {tk : Nat} (hk : ∀ b o, s.heap.get? b = some o → h'.get? b = some o) {c : OwnC}
    (ho : OwnInv { G with oa := some a } h' (.live c)) :
    Inv B Γ env { G with oa := some a } { st with own := .live c } { s with heap := h', toks := tk } ∧ Step Γ env G s { G with oa := some a } { s with heap := h', toks := tk } := by
  have hG : G.oa = none := I.own.none hf
  obtain ⟨oo, hoo⟩ := ho.ex rfl
  have used : ∀ b, (∃ o, s.heap.get? b = some o) → b ≠ a := fun b ⟨o, e⟩ h => by rw [h, hn] at e; cases e
  obtain ⟨m, cm, h1, h2, h3⟩ := I.ns
  have exL : ∃ o, s.heap.get? env.locals = some o := by obtain ⟨o, _, _, e, _⟩ := h1; exact ⟨o, e⟩
  have exC : ∀ x c, env.cells.lookup x = some c → ∃ o, s.heap.get? c = some o := fun x c e => by obtain ⟨o, e, _⟩ := h2 x c e; exact ⟨o, e⟩
  have hKa : G.K a = none := by
    cases hq : G.K a with
    | none => rfl
    | some o => exact absurd rfl (used a ⟨o, I.known a o hq⟩)
  refine ⟨{
    kind := I.kind
    names := I.names
    globals := I.globals
    builtins := I.builtins
    base := I.base
    known := fun b o e => hk b o (I.known b o e)
    KL := I.KL
    Kc := I.Kc
    Ko := fun _ _ b hb => by cases hb; exact hKa
    Kd := I.Kd
    ns := ⟨m, cm, h1.at' fun o e => hk _ o e, fun x c e => ?_, fun i x c d a1 a2 => ?_⟩
    ok := I.ok
    cells := I.cells
    cap := I.cap
    cL := I.cL
    oL := fun b hb => by cases hb; exact ⟨Ne.symm (used _ exL), fun x c e => used c (exC x c e)⟩
    dL := fun p e => ⟨(I.dL p e).1, (I.dL p e).2.1, (I.dL p e).2.2.1, (I.dL p e).2.2.2.1, fun b hb => ?_⟩
    own := ho
    oex := fun b e => ?_
    deck := ?_ }, ?_⟩
  · obtain ⟨o, ho, hd⟩ := h2 x c e
    exact ⟨o, hk c o ho, hd⟩
  · obtain ⟨v, b1, b2⟩ := h3 i x c d a1 a2
    exact ⟨v, b1.mono (Gle.own hG), b2⟩
  · cases hb
    have h := I.deck
    cases hd : st.dk with
    | none => rw [hd] at h; rw [show G.dk = none from h] at e; cases e
    | some d =>
      rw [hd] at h
      obtain ⟨p', t, v, ws, e1, ⟨o, es, ep, ho, r⟩, ⟨nc, hoc⟩, hi⟩ := h
      rw [show G.dk = some p from e] at e1
      cases e1
      exact ⟨Ne.symm (used _ ⟨o, ho⟩), Ne.symm (used _ ⟨_, hoc⟩)⟩
  · cases e
    show h'.get? _ ≠ none
    rw [hoo]; exact fun x => nomatch x
  · exact I.deck.mono (Gle.own hG) I.deck.none fun p b o _ _ e2 => hk b o e2
  · have S := Step.keeps (Γ := Γ) (env := env) (G := G) (s := s) (tk := tk) hk
    exact { same := S.same, le := Gle.own hG, kn := fun b h => .inl h, on := fun b h => (by cases h; exact .inr hn), dn := S.dn, keep := fun b o e _ => hk b o e, ex := S.ex }

theorem Inv.freeze (I : Inv B Γ env G st s) {a : Addr} (ha : G.oa = some a) {c : OwnC} (hl : st.own = .live c) {o : Obj} (e : s.heap.get? a = some o) :
    Inv B Γ env (G.know a o) { st with own := .dead } s ∧ Step Γ env G s (G.know a o) s := by
  have hK := I.Ko c hl a ha
  have I' : Inv B Γ env G { st with own := .dead } s := { I with Ko := fun _ h => (nomatch h), own := trivial, ns := I.ns, deck := I.deck }
  exact ⟨I'.know e hK (I.oL a ha).1 (fun x c h => (I.oL a ha).2 x c h) (fun c h => nomatch h) (fun p h => (I.dL p h).2.2.2.2 a ha), (Step.refl G s).know hK (.inr ha)⟩

-- reading, making
noncomputable def rdO (i : Nat) : Sm := fun st Q => match st.loc[i]? with
  | some (some .own) => Q .own st
  | _ => False
theorem Ev.vO (i : Nat) {x : Str} {c : Bool} {pos : Pos} (hx : Γ.vars[i]? = some (some (x, c)) := by rfl) : Ev B n Γ (.Name x pos) (rdO i) := by
  refine ⟨?_⟩
  intro A env G st s Q hA I hf
  unfold rdO at hf
  split at hf
  · rename_i e
    exact W.any (wpAny_Name (load_var I hx e fun v hv => out hf hv I) (ok_var I.ok hx).2)
  · exact hf.elim

noncomputable def isFresh : OwnSt → Prop
  | .fresh => True
  | _ => False
noncomputable def ownL (g : Ls) : Sm := fun st Q => g st fun ds st₁ => isFresh st₁.own ∧ lim ds ∧ Q .own { st₁ with own := .live (.lst ds) }
theorem Ev.ownL {es : List Expr} {pos : Pos} {g : Ls} (h : Evs B n Γ es g) : Ev B n Γ (.List es pos) (ownL g) := by
  refine ⟨?_⟩
  intro A env G st s Q hA I hf
  refine C.ListE (wp_then (h.1 pos A env G st s _ hA I hf) fun ds st' G' vs s' h1 h2 h3 h4 => ?_)
  obtain ⟨hfr, hl, hq⟩ := h1
  have hfr' : st'.own = .fresh := by cases ho : st'.own <;> rw [ho] at hfr <;> first | rfl | exact hfr.elim
  obtain ⟨I', S'⟩ := h3.own_new hfr' (a := s'.heap.objs.size) (get_size _) (h' := s'.heap.push { cls := .type "list", data := .seq vs.toArray }) (tk := s'.toks) (fun b o e => Heap.get?_push_of_some _ e) (c := .lst ds)
    ⟨_, vs.toArray, rfl, ⟨0, Heap.get?_push_size _ rfl⟩, by simpa using h2.mono (Gle.own (h3.own.none hfr'))⟩
  refine W.any (wpAny_newObj_type ?_ (by show vs.toArray.size ≤ sizeLine; rw [List.size_toArray, h2.length]; exact line_le hl))
  exact ⟨.own, _, _, hq, by simp only [Val]; exact ⟨_, rfl, rfl⟩, I', S'⟩

noncomputable def baP : List V → St → (V → St → Prop) → Prop := fun ds st Q => match ds with
  | [] => isFresh st.own ∧ Q .own { st with own := .live (.byt []) }
  | _ => False
theorem prim_ba : Prim B n (.type "bytearray") baP := by
  intro Γ A env G st s ds vs Q hA I hv hq
  unfold baP at hq
  split at hq
  · simp only [Vals] at hv
    subst hv
    obtain ⟨hfr, hq⟩ := hq
    have hfr' : st.own = .fresh := by cases ho : st.own <;> rw [ho] at hfr <;> first | rfl | exact hfr.elim
    refine BA.new_ok fun h' e1 e2 => ?_
    obtain ⟨I', S'⟩ := I.own_new hfr' (a := s.heap.objs.size) (get_size _) (h' := h') (tk := s.toks) e2 (c := .byt []) ⟨_, rfl, e1⟩
    exact ⟨.own, _, _, hq, by simp only [Val]; exact ⟨_, rfl, rfl⟩, I', S'⟩
  · exact hq.elim

-- len, bytes
noncomputable def lenO : List V → St → (V → St → Prop) → Prop := fun ds st Q => match ds, st.own with
  | [.own], .live (.byt b) => b.length ≤ 16777216 ∧ Q (.int b.length) st
  | _, _ => False
theorem prim_lenO : Prim B n (.builtin "len") lenO := by
  intro Γ A env G st s ds vs Q hA I hv hq
  unfold lenO at hq
  split at hq
  · rename_i b ho
    simp only [Vals] at hv
    obtain ⟨v, r, rfl, hv, rfl⟩ := hv
    simp only [Val] at hv
    obtain ⟨a, e1, rfl⟩ := hv
    have h := I.own
    rw [ho] at h
    obtain ⟨a', e2, e3⟩ := h
    rw [e1] at e2; cases e2
    refine BA.len_ok e3 (by simpa using hq.1) fun t k => ?_
    exact outT hq.2 (by simp [Val]) I
  · exact hq.elim
noncomputable def bytesO : List V → St → (V → St → Prop) → Prop := fun ds st Q => match ds, st.own with
  | [.own], .live (.byt b) => b.length ≤ 16777216 ∧ Q (.byt b) st
  | _, _ => False
theorem prim_bytesO : Prim B n (.type "bytes") bytesO := by
  intro Γ A env G st s ds vs Q hA I hv hq
  unfold bytesO at hq
  split at hq
  · rename_i b ho
    simp only [Vals] at hv
    obtain ⟨v, r, rfl, hv, rfl⟩ := hv
    simp only [Val] at hv
    obtain ⟨a, e1, rfl⟩ := hv
    have h := I.own
    rw [ho] at h
    obtain ⟨a', e2, e3⟩ := h
    rw [e1] at e2; cases e2
    refine W.any (BA.bytes_ok e3 (by rw [sizeLine_eq]; simpa using hq.1) fun t k => ?_)
    exact outT hq.2 (by simp [Val]) I
  · exact hq.elim

/-- return found -/
noncomputable def retO (i : Nat) : Sx := fun st Q => match st.loc[i]?, st.own with
  | some (some .own), .live (.lst xs) => Q (.ret (.lst xs)) { st with own := .dead }
  | _, _ => False
theorem Ex.retO (i : Nat) {x : Str} {c : Bool} {p pos : Pos} (hx : Γ.vars[i]? = some (some (x, c)) := by rfl) : Ex B n Γ (.Return (some (.Name x p)) pos) (retO i) := by
  refine ⟨?_⟩
  intro A env G st s Q hA I hf
  unfold Mine.retO at hf
  split at hf
  · rename_i xs e ho
    refine C.RetS (W.any (wpAny_Name (load_var I hx e fun v hv => ?_) (ok_var I.ok hx).2))
    simp only [Val] at hv
    obtain ⟨a, e1, rfl⟩ := hv
    have h := I.own
    rw [ho] at h
    obtain ⟨a', ws, e2, ⟨m, e3⟩, e4⟩ := h
    rw [e1] at e2; cases e2
    obtain ⟨I', S'⟩ := I.freeze e1 ho e3
    exact ⟨.ret (.lst xs), _, _, hf, ⟨_, rfl, by simp only [Val]; exact ⟨a, _, ws, m, rfl, know_at, rfl, rfl, e4.mono S'.le⟩⟩, I', S'⟩
  · exact hf.elim

namespace C
theorem AugS {x : Str} {p pos : Pos} {op : Operator} {e : Expr} {M : Model} {Q : Flow → Shared → Prop}
    (h : W M A (loadName env x) (fun old s₁ => W M A (eval e env) (fun v s₂ => W M A (inplaceOp op old v) (fun r s₃ => W M A (storeName env x r) (fun _ => Q .next) s₃) s₂) s₁) s) :
    W M A (exec (.AugAssign (.Name x p) op e pos) env) Q s := by
  rw [exec_AugAssign_Name]
  refine W.bind (W.standAt (W.bind (W.mono h fun old s₁ h₁ => W.bind (W.holding (W.mono h₁ fun v s₂ h₂ => W.bind (W.standAt (W.bind (W.operate (W.mono h₂ fun r s₃ h₃ => W.bind (W.standAt (W.bind ?_)))))))))))
  show W M A (bindName env x r) _ s₃
  exact W.bind (W.holding (W.point (W.bind (W.mono h₃ fun _ s₄ h₄ => W.point (W.pure h₄)))))
theorem ExprS {e : Expr} {pos : Pos} {prog : Program} {w : World} {Q : Flow → Shared → Prop} (hi : interactive env = false) (hs : swapsWith e none pos.line env = Pure.pure false)
    (h : W (model prog w) A (eval e env) (fun _ => Q .next) s) : W (model prog w) A (exec (.Expr e pos) env) Q s := by
  rw [exec_Expr env e pos hi hs]
  exact W.bind (W.standAt (W.bind (W.mono h fun v s₁ h₁ => W.any (wpAny_dropValue h₁))))
theorem MethodE {o : Expr} {name : Str} {apos pos : Pos} {args : List Expr} {pl : Sem Bool} {M : Model} {Q : Value → Shared → Prop}
    (h : W M A (eval o env) (fun ov s₁ => W M A (getMethod ov name pl) (fun fx s₂ => W M A (callWith pos fx.1 fx.2 (backTo pos (starEach args env)) []) Q s₂) s₁) s)
    (he : eval (.Call (.Attribute o name apos) args [] pos) env = (do
      let ov ← eval o env
      standAt apos.atName
      let (f, first) ← holding [ov] (getMethod ov name pl)
      callWith pos f first (backTo pos (starEach args env)) [])) :
    W M A (eval (.Call (.Attribute o name apos) args [] pos) env) Q s := by
  rw [he]
  refine W.bind (W.mono h (fun ov s₁ h₁ => W.bind (W.standAt (W.bind (W.holding (W.mono h₁ (fun fx s₂ h₂ => ?_)))))))
  exact h₂
end C

/-- x += e, of numbers -/
noncomputable def augI (i : Nat) (f : Sm) : Sx := fun st Q => match st.loc[i]? with
  | some (some (.int a)) => f st fun d st₁ => match d with
    | .int b => Q .next (st₁.set i (.int (a + b)))
    | _ => False
  | _ => False
theorem Ex.augI (i : Nat) {x : Str} {c : Bool} {e : Expr} {p pos : Pos} {f : Sm} (h : Ev B n Γ e f) (hx : Γ.vars[i]? = some (some (x, c)) := by rfl) (hc : c = true → Γ.fn = true := by decide) :
    Ex B n Γ (.AugAssign (.Name x p) .Add e pos) (augI i f) := by
  refine ⟨?_⟩
  intro A env G st s Q hA I hf
  unfold Mine.augI at hf
  split at hf
  · rename_i a e₀
    refine C.AugS (W.any (load_var I hx e₀ fun v hv => ?_))
    simp only [Val] at hv
    obtain ⟨t, rfl⟩ := hv
    refine W.mono (h.1 A env G st s _ hA I hf) (fun v s₁ ⟨d, st₁, G₁, h1, h2, h3, h4⟩ => ?_)
    cases d <;> first | exact False.elim h1 | skip
    rename_i b
    simp only [Val] at h2
    obtain ⟨u, rfl⟩ := h2
    refine W.any (AutoIntOps.iadd_0 ?_)
    refine W.any (store_var h3.toks hx hc (d := .int (a + b)) (by simp [Val]) fun s' I' S' => ?_)
    exact ⟨.next, _, G₁, h1, rfl, I', h4.trans (.trans .toks S')⟩
  · exact hf.elim

/-- found += e, of octets -/
noncomputable def augO (i : Nat) (f : Sm) : Sx := fun st Q => match st.loc[i]? with
  | some (some .own) => f st fun d st₁ => match d, st₁.own with
    | .byt c, .live (.byt b) => b.length + c.length ≤ 16777216 ∧ Q .next { st₁ with own := .live (.byt (b ++ c)), loc := st₁.loc.set i (some .own) }
    | _, _ => False
  | _ => False
theorem Ex.augO (i : Nat) {x : Str} {c : Bool} {e : Expr} {p pos : Pos} {f : Sm} (h : Ev B n Γ e f) (hx : Γ.vars[i]? = some (some (x, c)) := by rfl) (hc : c = true → Γ.fn = true := by decide) :
    Ex B n Γ (.AugAssign (.Name x p) .Add e pos) (augO i f) := by
  refine ⟨?_⟩
  intro A env G st s Q hA I hf
  unfold Mine.augO at hf
  split at hf
  · rename_i e₀
    refine C.AugS (W.any (load_var I hx e₀ fun v hv => ?_))
    simp only [Val] at hv
    obtain ⟨a, ha, rfl⟩ := hv
    refine W.mono (h.1 A env G st s _ hA I hf) (fun v s₁ ⟨d, st₁, G₁, h1, h2, h3, h4⟩ => ?_)
    dsimp only at h1
    split at h1
    · rename_i cc bb ho
      simp only [Val] at h2
      obtain ⟨u, rfl⟩ := h2
      have ha₁ := h4.le.oa _ ha
      have hw := h3.own
      rw [ho] at hw
      obtain ⟨a', e2, e3⟩ := hw
      rw [ha₁] at e2; cases e2
      refine BA.iadd_ok e3 (by simpa using h1.1) fun h' e4 e5 => ?_
      obtain ⟨I₂, S₂⟩ := h3.own_set ha₁ ho (h' := h') (tk := s₁.toks) e5.extBut (c' := .byt (bb ++ cc)) ⟨a, ha₁, by simpa [BA.obj] using e4⟩
      refine W.any (store_var I₂ hx hc (d := .own) (by simp only [Val]; exact ⟨a, ha₁, rfl⟩) fun s' I' S' => ?_)
      exact ⟨.next, _, G₁, h1.2, rfl, I', h4.trans (.trans S₂ S')⟩
    · exact h1.elim
  · exact hf.elim

/-- found.append(e) -/
noncomputable def appL (i : Nat) (f : Sm) : Sx := fun st Q => match st.loc[i]?, st.own with
  | some (some .own), .live (.lst _) => f st fun d st₁ => match st₁.own with
    | .live (.lst xs) => xs.length < 1000000 ∧ Q .next { st₁ with own := .live (.lst (xs ++ [d])) }
    | _ => False
  | _, _ => False
noncomputable def appB (i : Nat) (f : Sm) : Sx := fun st Q => match st.loc[i]?, st.own with
  | some (some .own), .live (.byt _) => f st fun d st₁ => match d, st₁.own with
    | .int k, .live (.byt b) => (0 ≤ k ∧ k < 256 ∧ b.length < 16777216) ∧ Q .next { st₁ with own := .live (.byt (b ++ [k.toNat.toUInt8])) }
    | _, _ => False
  | _, _ => False

abbrev IsApp (x : Str) (p q pos₁ : Pos) (e : Expr) : Prop := ∀ env, eval (.Call (.Attribute (.Name x p) (Str.ofString "append") q) [e] [] pos₁) env = (do
      let ov ← eval (.Name x p) env
      standAt q.atName
      let (f, first) ← holding [ov] (getMethod ov (Str.ofString "append") (do return (← importBound (.Name x p) env).getD true))
      callWith pos₁ f first (backTo pos₁ (starEach [e] env)) [])

theorem app_arg {e : Expr} {pos₁ : Pos} {f : Sm} {id : String} {a : Addr} {R : V → St → Prop} {Q : Value → Shared → Prop} (h : Ev B n Γ e f) (hk : keeperOf (.builtin id) = pure .machine) (hst : ∀ env, starEach [e] env = [(false, eval e env)])
    (hA : Room n A) (I : Inv B Γ env G st s) (hf : f st R)
    (hgo : ∀ v s₁ d st₁ G₁, Val G₁ d v → Inv B Γ env G₁ st₁ s₁ → Step Γ env G s G₁ s₁ → R d st₁ → W (model B.prog B.w) A (PySem.call (.builtin id) [.ref a, v]) Q s₁) :
    W (model B.prog B.w) A (callWith pos₁ (.builtin id) [.ref a] (backTo pos₁ (starEach [e] env)) []) Q s := by
  refine C.callWith_plain hk (plain_back (by rw [hst]; rfl)) ?_
  rw [hst]
  refine C.evalArgs_plain ?_
  show W _ _ (spliced [(false, eval e env)]) _ _
  refine C.spliced_cons (W.mono (h.1 A env G st s _ hA I hf) (fun v s₁ ⟨d, st₁, G₁, h1, h2, h3, h4⟩ => ?_))
  refine C.spliced_nil ?_
  exact hgo v s₁ d st₁ G₁ h2 h3 h4 h1

theorem Ex.appL (i : Nat) {x : Str} {c : Bool} {e : Expr} {p q pos₁ pos₂ : Pos} {f : Sm} (h : Ev B n Γ e f) (hx : Γ.vars[i]? = some (some (x, c)) := by rfl)
    (hs : ∀ env, swapsWith (.Call (.Attribute (.Name x p) (Str.ofString "append") q) [e] [] pos₁) Option.none pos₂.line env = pure false := by intro _; rfl)
    (hst : ∀ env, starEach [e] env = [(false, eval e env)] := by intro _; rfl) (he : IsApp x p q pos₁ e := by intro _; rfl) :
    Ex B n Γ (.Expr (.Call (.Attribute (.Name x p) (Str.ofString "append") q) [e] [] pos₁) pos₂) (appL i f) := by
  refine ⟨?_⟩
  intro A env G st s Q hA I hf
  unfold Mine.appL at hf
  split at hf
  · rename_i e₀ ho
    refine C.ExprS (by unfold interactive; rw [I.kind]; rfl) (hs env) ?_
    refine C.MethodE ?_ (he env)
    refine W.any (wpAny_Name (load_var I hx e₀ fun v hv => ?_) (ok_var I.ok hx).2)
    simp only [Val] at hv
    obtain ⟨a, ha, rfl⟩ := hv
    have hw := I.own
    rw [ho] at hw
    obtain ⟨a', ws, e1, hl, e3⟩ := hw
    rw [ha] at e1; cases e1
    refine W.any (getMethod_builtin hl.isList.typeIs PySem.F.plainAttrs_list slot_list_append PySem.F.type_list_append (fun a' e => ?_) ?_)
    · cases e; obtain ⟨m, e⟩ := hl; exact ⟨_, e, rfl⟩
    refine app_arg h rfl hst hA I hf fun v s₁ d st₁ G₁ h2 h3 h4 h1 => ?_
    split at h1
    · rename_i xs ho₁
      have ha₁ := h4.le.oa _ ha
      have hw := h3.own
      rw [ho₁] at hw
      obtain ⟨a', ws₁, e1, hl₁, e4⟩ := hw
      rw [ha₁] at e1; cases e1
      have el := e4.length
      rw [Array.length_toList] at el
      refine W.any (wpAny_list_append_plain hl₁ (fun h' e5 e6 => ?_) (by rw [el]; exact line_le (Nat.le_of_lt h1.1)))
      obtain ⟨I₂, S₂⟩ := h3.own_set ha₁ ho₁ (h' := h') (tk := s₁.toks) e6.extBut (c' := .lst (xs ++ [d])) ⟨a, _, ha₁, e5, by rw [Array.toList_push]; exact e4.append (by simp only [Vals]; exact ⟨v, [], rfl, h2, rfl⟩)⟩
      exact ⟨.next, _, G₁, h1.2, rfl, I₂, h4.trans S₂⟩
    · exact h1.elim
  · exact hf.elim
theorem Ex.appB (i : Nat) {x : Str} {c : Bool} {e : Expr} {p q pos₁ pos₂ : Pos} {f : Sm} (h : Ev B n Γ e f) (hx : Γ.vars[i]? = some (some (x, c)) := by rfl)
    (hs : ∀ env, swapsWith (.Call (.Attribute (.Name x p) (Str.ofString "append") q) [e] [] pos₁) Option.none pos₂.line env = pure false := by intro _; rfl)
    (hst : ∀ env, starEach [e] env = [(false, eval e env)] := by intro _; rfl) (he : IsApp x p q pos₁ e := by intro _; rfl) :
    Ex B n Γ (.Expr (.Call (.Attribute (.Name x p) (Str.ofString "append") q) [e] [] pos₁) pos₂) (appB i f) := by
  refine ⟨?_⟩
  intro A env G st s Q hA I hf
  unfold Mine.appB at hf
  split at hf
  · rename_i e₀ ho
    refine C.ExprS (by unfold interactive; rw [I.kind]; rfl) (hs env) ?_
    refine C.MethodE ?_ (he env)
    refine W.any (wpAny_Name (load_var I hx e₀ fun v hv => ?_) (ok_var I.ok hx).2)
    simp only [Val] at hv
    obtain ⟨a, ha, rfl⟩ := hv
    have hw := I.own
    rw [ho] at hw
    obtain ⟨a', e1, hl⟩ := hw
    rw [ha] at e1; cases e1
    refine W.any (getMethod_builtin (BA.typeIs hl) BA.plainAttrs BA.slot_append BA.type_append (fun a' e => ?_) ?_)
    · cases e; exact ⟨_, hl, rfl⟩
    refine app_arg h rfl hst hA I hf fun v s₁ d st₁ G₁ h2 h3 h4 h1 => ?_
    split at h1
    · rename_i k bb ho₁
      simp only [Val] at h2
      obtain ⟨t, rfl⟩ := h2
      have ha₁ := h4.le.oa _ ha
      have hw := h3.own
      rw [ho₁] at hw
      obtain ⟨a', e1, hl₁⟩ := hw
      rw [ha₁] at e1; cases e1
      refine BA.append_ok hl₁ h1.1.1 h1.1.2.1 (by rw [sizeLine_eq]; have := h1.1.2.2; simp; omega) fun h' e5 e6 => ?_
      obtain ⟨I₂, S₂⟩ := h3.own_set ha₁ ho₁ (h' := h') (tk := s₁.toks) e6.extBut (c' := .byt (bb ++ [k.toNat.toUInt8])) ⟨a, ha₁, by simpa [BA.obj] using e5⟩
      exact ⟨.next, _, G₁, h1.2, rfl, I₂, h4.trans S₂⟩
    · exact h1.elim
  · exact hf.elim
end
end

section
/-- a frame with a block's names -/
noncomputable def env0 (Γ : Ctx) : Env := { scope := { (default : Scope) with kind := .function, names := Γ.names }, locals := 0, globals := 0, cells := [] }

section
variable {B : Base} {n : Nat} {Γ : Ctx} {env : Env} {G G' : Gh} {st : St} {s s' : Shared} {A : Around}

theorem Inv.blockKind (I : Inv B Γ env G st s) : env.blockKind = .function := by unfold Env.blockKind; rw [I.kind]; rfl
theorem stores_env (ts : List Expr) (e : Expr) {env env' : Env} (hk : env.scope.kind = env'.scope.kind) (hn : env.scope.names = env'.scope.names) : swappedStores ts e env = swappedStores ts e env' := by
  obtain ⟨⟨k, a, b, c, d⟩⟩ := env
  obtain ⟨⟨k', a', b', c', d'⟩⟩ := env'
  dsimp only at hk hn
  subst hk hn
  rfl
theorem Inv.stores (I : Inv B Γ env G st s) (ts : List Expr) (e : Expr) : swappedStores ts e env = swappedStores ts e (env0 Γ) := stores_env ts e I.kind I.names
theorem swaps_env (t : Option Expr) (e : Expr) (l : Nat) {env env' : Env} (hk : env.scope.kind = env'.scope.kind) (hn : env.scope.names = env'.scope.names) : swapsWith e t l env = swapsWith e t l env' := by
  obtain ⟨⟨k, a, b, c, d⟩⟩ := env
  obtain ⟨⟨k', a', b', c', d'⟩⟩ := env'
  dsimp only at hk hn
  subst hk hn
  rfl
theorem Inv.swaps (I : Inv B Γ env G st s) (t : Option Expr) (e : Expr) (l : Nat) : swapsWith e t l env = swapsWith e t l (env0 Γ) := swaps_env t e l I.kind I.names

/-- storing -/
abbrev Tm := V → St → (St → Prop) → Prop
structure Tg (B : Base) (Γ : Ctx) (t : Expr) (f : Tm) : Prop where
  sat : ∀ (A : Around) (env : Env) (G : Gh) (st : St) (s : Shared) (d : V) (v : Value) (Q : St → Prop), A.handled = none → Inv B Γ env G st s → Val G d v → f d st Q →
    W (model B.prog B.w) A (assign t env v) (fun _ s' => ∃ st', Q st' ∧ Inv B Γ env G st' s' ∧ Step Γ env G s G s') s
abbrev Tms := List V → St → (St → Prop) → Prop
structure Tgs (B : Base) (Γ : Ctx) (ts : List Expr) (f : Tms) : Prop where
  sat : ∀ (A : Around) (env : Env) (G : Gh) (st : St) (s : Shared) (ds : List V) (vs : List Value) (Q : St → Prop), A.handled = none → Inv B Γ env G st s → Vals G ds vs → f ds st Q →
    W (model B.prog B.w) A (assignInOrder ((assignEach ts env).map (·.2)) vs) (fun _ s' => ∃ st', Q st' ∧ Inv B Γ env G st' s' ∧ Step Γ env G s G s') s

noncomputable def tN (i : Nat) : Tm := fun d st Q => Q (st.set i d)
theorem Tg.name (i : Nat) {x : Str} {c : Bool} {p : Pos} (hx : Γ.vars[i]? = some (some (x, c)) := by rfl) (hc : c = true → Γ.fn = true := by decide) : Tg B Γ (.Name x p) (tN i) := by
  refine ⟨?_⟩
  intro A env G st s d v Q hA I hv hq
  show W _ _ (do PySem.standAt p; bindName env x v) _ _
  refine W.bind (W.standAt ?_)
  exact W.any (bindName_ (store_var I hx hc hv fun s' I' S' => ⟨_, hq, I', S'⟩))
noncomputable def tT (k : Nat) (g : Tms) : Tm := fun d st Q => match d with | .tup ds => ds.length = k ∧ g ds st Q | _ => False
theorem Tg.t {ts : List Expr} {k : Nat} {p : Pos} {g : Tms} (m : Nat) (h : Tgs B Γ ts g) (hl : ∀ env, (assignEach ts env).length = m ∧ (assignEach ts env).findIdx? (·.1) = none := by intro _; exact ⟨rfl, rfl⟩) : Tg B Γ (.Tuple ts k p) (tT m g) := by
  refine ⟨?_⟩
  intro A env G st s d v Q hA I hv hq
  cases d <;> first | exact False.elim hq | skip
  rename_i ds
  simp only [Val] at hv
  obtain ⟨a, ws, m, rfl, h1, h2⟩ := hv
  obtain ⟨hm, hq⟩ := hq
  have ht : IsTup s.heap a ws := ⟨_, I.known _ _ h1, rfl, m, rfl⟩
  have el := h2.length
  rw [Array.length_toList, hm] at el
  rw [assign_Tuple]
  refine W.bind (W.standAt ?_)
  unfold unpack
  rw [(hl env).1, (hl env).2, ← el]
  refine W.bind (W.holding (W.any (unpackItems_tuple hA ht fun h' he => ?_)))
  have hk : ∀ b o, s.heap.get? b = some o → h'.get? b = some o := fun b o e => he b o (Nat.ne_of_lt (Heap.lt_size e)) e
  have I' := I.keeps (tk := s.toks) hk
  refine W.mono (h.1 A env G st _ ds ws.toList Q hA I' h2 hq) fun _ s'' ⟨st', k1, k2, k3⟩ => ⟨st', k1, k2, ?_⟩
  exact (Step.keeps (tk := s.toks) hk).trans k3
noncomputable def tNil : Tms := fun ds st Q => match ds with | [] => Q st | _ => False
noncomputable def tCons (f : Tm) (g : Tms) : Tms := fun ds st Q => match ds with | [] => False | d :: ds => f d st (fun st' => g ds st' Q)
theorem Tgs.nil : Tgs B Γ [] tNil := by
  refine ⟨?_⟩
  intro A env G st s ds vs Q hA I hv hq
  cases ds <;> first | exact False.elim hq | skip
  simp only [Vals] at hv
  subst hv
  exact W.pure ⟨st, hq, I, .refl _ _⟩
theorem Tgs.cons {t : Expr} {ts : List Expr} {f : Tm} {g : Tms} (hf : Tg B Γ t f) (hg : Tgs B Γ ts g) (he : ∀ env, assignEach (t :: ts) env = (false, assign t env) :: assignEach ts env := by intro _; rfl) : Tgs B Γ (t :: ts) (tCons f g) := by
  refine ⟨?_⟩
  intro A env G st s ds vs Q hA I hv hq
  cases ds <;> first | exact False.elim hq | skip
  rename_i d ds
  simp only [Vals] at hv
  obtain ⟨v, r, rfl, h1, h2⟩ := hv
  rw [he]
  show W _ _ (do PySem.holding r (assign t env v); assignInOrder ((assignEach ts env).map (·.2)) r) _ _
  refine W.bind (W.holding (W.mono (hf.1 A env G st s d v _ hA I h1 hq) fun _ s₁ ⟨st₁, k1, k2, k3⟩ => ?_))
  exact W.mono (hg.1 A env G st₁ s₁ ds r Q hA k2 h2 k1) fun _ s₂ ⟨st₂, j1, j2, j3⟩ => ⟨st₂, j1, j2, k3.trans j3⟩

/-- a, b = e -/
noncomputable def putT (f : Sm) (t : Tm) : Sx := fun st Q => f st fun d st₁ => t d st₁ fun st₂ => Q .next st₂
theorem Ex.putT {e : Expr} {ts : List Expr} {k : Nat} {p pos : Pos} {f : Sm} {t : Tm} (h : Ev B n Γ e f) (ht : Tg B Γ (.Tuple ts k p) t)
    (hs : ∀ env, swapsWithSole [.Tuple ts k p] e pos.line env = pure false := by intro _; rfl) (hw : swappedStores [.Tuple ts k p] e (env0 Γ) = pure Option.none := by rfl) :
    Ex B n Γ (.Assign [.Tuple ts k p] e pos) (putT f t) := by
  refine ⟨?_⟩
  intro A env G st s Q hA I hf
  show W _ _ (exec (.Assign [.Tuple ts k p] e pos) env) _ _
  rw [exec_Assign]
  refine W.bind (W.standAt ?_)
  rw [hs]
  refine W.bind (W.pure ?_)
  rw [if_neg (by decide)]
  refine W.bind (W.mono (h.1 A env G st s _ hA I hf) (fun v s₁ ⟨d, st₁, G₁, h1, h2, h3, h4⟩ => ?_))
  rw [I.stores, hw]
  refine W.bind (W.pure ?_)
  show W _ A (do assignAll v [assign (.Tuple ts k p) env]; pure Flow.next) _ s₁
  have e1 : assignAll v [assign (.Tuple ts k p) env] = assign (.Tuple ts k p) env v := rfl
  rw [e1]
  refine W.bind (W.mono (ht.1 A env G₁ st₁ s₁ d v _ hA.handled h3 h2 h1) fun _ s₂ ⟨st₂, k1, k2, k3⟩ => W.pure ?_)
  exact ⟨.next, st₂, G₁, k1, rfl, k2, h4.trans k3⟩

noncomputable def sets : List Nat → List V → St → St
  | i :: is, d :: ds, st => sets is ds (st.set i d)
  | _, _, st => st
theorem binds_ok {x : List Str} : ∀ {xs : List Str} {is : List Nat} {ds : List V} {vs : List Value} {st : St} {s : Shared}, xs.length = is.length → (∀ (k : Nat) (x : Str) (i : Nat), xs[k]? = some x → is[k]? = some i → Γ.vars[i]? = some (some (x, false))) → ds.length = is.length → Inv B Γ env G st s → Vals G ds vs →
    W (model B.prog B.w) A (assignInOrder (xs.map fun n => bindName env n) vs) (fun _ s' => Inv B Γ env G (sets is ds st) s' ∧ Step Γ env G s G s') s
  | [], is, ds, vs, st, s, h1, h2, h3, I, hv => by
    cases is with
    | cons => cases h1
    | nil =>
      cases ds with
      | cons => cases h3
      | nil => simp only [Vals] at hv; subst hv; exact W.pure ⟨I, .refl _ _⟩
  | y :: xs, is, ds, vs, st, s, h1, h2, h3, I, hv => by
    cases is with
    | nil => cases h1
    | cons i is =>
      cases ds with
      | nil => cases h3
      | cons d ds =>
        simp only [Vals] at hv
        obtain ⟨v, r, rfl, e1, e2⟩ := hv
        show W _ _ (do PySem.holding r (bindName env y v); assignInOrder (xs.map fun n => bindName env n) r) _ _
        refine W.bind (W.holding (W.any (bindName_ (store_var I (h2 0 y i rfl rfl) (fun h => nomatch h) e1 fun s' I' S' => ?_))))
        refine W.mono (binds_ok (x := x) (by simpa using h1) (fun k x i a b => h2 (k + 1) x i (by simpa using a) (by simpa using b)) (by simpa using h3) I' e2) fun _ s₂ ⟨k2, k3⟩ => ⟨k2, S'.trans k3⟩

theorem Vals.rev : ∀ {ds : List V} {vs : List Value}, Vals G ds vs → Vals G ds.reverse vs.reverse := Vals.reverse
/-- a, b = x, y: the names stored from the right -/
noncomputable def putS (is : List Nat) (f : Sm) : Sx := fun st Q => f st fun d st₁ => match d with
  | .tup ds => ds.length = is.length ∧ Q .next (sets is.reverse ds.reverse st₁)
  | _ => False
theorem Ex.putS (is : List Nat) {names : List Str} {e : Expr} {ts : List Expr} {k : Nat} {p pos : Pos} {f : Sm} (h : Ev B n Γ e f)
    (hs : ∀ env, swapsWithSole [.Tuple ts k p] e pos.line env = pure false := by intro _; rfl) (hw : swappedStores [.Tuple ts k p] e (env0 Γ) = pure (some names) := by rfl)
    (hn : (is.map fun i => Γ.vars[i]?) = names.map fun x => some (some (x, false)) := by rfl) :
    Ex B n Γ (.Assign [.Tuple ts k p] e pos) (putS is f) := by
  refine ⟨?_⟩
  intro A env G st s Q hA I hf
  show W _ _ (exec (.Assign [.Tuple ts k p] e pos) env) _ _
  rw [exec_Assign]
  refine W.bind (W.standAt ?_)
  rw [hs]
  refine W.bind (W.pure ?_)
  rw [if_neg (by decide)]
  refine W.bind (W.mono (h.1 A env G st s _ hA I hf) (fun v s₁ ⟨d, st₁, G₁, h1, h2, h3, h4⟩ => ?_))
  rw [I.stores, hw]
  refine W.bind (W.pure ?_)
  cases d <;> first | exact False.elim h1 | skip
  rename_i ds
  simp only [Val] at h2
  obtain ⟨a, ws, m, rfl, e1, e2⟩ := h2
  obtain ⟨hm, hq⟩ := h1
  have ht : IsTup s₁.heap a ws := ⟨_, h3.known _ _ e1, rfl, m, rfl⟩
  have hnl : is.length = names.length := by simpa using congrArg List.length hn
  have el := e2.length
  rw [Array.length_toList, hm, hnl] at el
  show W _ A (do rule "assign.swapped-stores"; let items ← unpackItems (.ref a) names.length none; assignInOrder (names.reverse.map fun n => bindName env n) items.reverse; pure Flow.next) _ s₁
  rw [← el]
  refine W.bind (W.rule (W.bind (W.any (unpackItems_tuple hA.handled ht fun h' he => ?_))))
  have hk : ∀ b o, s₁.heap.get? b = some o → h'.get? b = some o := fun b o e => he b o (Nat.ne_of_lt (Heap.lt_size e)) e
  have I' := h3.keeps (tk := s₁.toks) hk
  refine W.bind (W.mono (binds_ok (x := []) (is := is.reverse) (by simp [hnl]) (fun k x i a b => ?_) (by simp [hm]) I' e2.reverse) fun _ s₂ ⟨k2, k3⟩ => W.pure ?_)
  · have hk : k < names.length := by have := (List.getElem?_eq_some_iff.mp a).1; simpa using this
    rw [List.getElem?_reverse hk] at a
    rw [List.getElem?_reverse (by rw [hnl]; exact hk), hnl] at b
    have := congrArg (fun l => l[names.length - 1 - k]?) hn
    simp only [List.getElem?_map, a, b, Option.map_some, Option.some.injEq] at this
    exact this
  · exact ⟨.next, _, G₁, hq, rfl, k2, h4.trans ((Step.keeps (tk := s₁.toks) hk).trans k3)⟩
end
end

section
section
variable {B : Base} {n : Nat} {Γ : Ctx} {env : Env} {G G' : Gh} {st : St} {s s' : Shared} {A : Around}

/-- an iterator with these values to come -/
inductive ItObj (G : Gh) : Obj → List V → Prop
  | byt (b : List UInt8) (t : Tok) (i : Nat) (o : Obj) : o.cls = .type "bytes_iterator" → o.data = .fields #[.bytes b.toArray t, .int i 0] → ItObj G o ((b.drop i).map fun c => .int c.toNat)
  | lst (l : Addr) (ol : Obj) (ws : Array Value) (m : Nat) (i : Nat) (o : Obj) (ds : List V) : G.K l = some ol → ol.cls = .type "list" → ol.data = .seq ws m → Vals G ds (ws.toList.drop i) →
      o.cls = .type "list_iterator" → o.data = .fields #[.ref l, .int i 0] → ItObj G o ds
  | tup (l : Addr) (ws : Array Value) (m : Nat) (i : Nat) (o : Obj) (ds : List V) : G.K l = some { cls := .type "tuple", data := .seq ws m } → Vals G ds (ws.toList.drop i) →
      o.cls = .type "tuple_iterator" → o.data = .fields #[.ref l, .int i 0] → ItObj G o ds
  | rng (x k : Nat) : ItObj G { cls := .type "range_iterator", dict := none, data := .fields #[rawInt x, rawInt k, rawInt 1], slots := #[] } ((List.range' x k).map fun (j : Nat) => .int j)
theorem ItObj.mono {o : Obj} {ds : List V} (h : Gle G G') : ItObj G o ds → ItObj G' o ds
  | .byt b t i o a b' => .byt b t i o a b'
  | .lst l ol ws m i o ds a b c d e f => .lst l ol ws m i o ds (h.K _ _ a) b c (d.mono h) e f
  | .tup l ws m i o ds a d e f => .tup l ws m i o ds (h.K _ _ a) (d.mono h) e f
  | .rng x k => .rng x k

noncomputable def iterOf : V → Option (List V)
  | .byt b => some (b.map fun c => .int c.toNat)
  | .lst ds => some ds
  | .tup ds => some ds
  | .rng m => if 0 ≤ m ∧ m.toNat < 1000000 then some ((List.range m.toNat).map fun (j : Nat) => .int j) else none
  | _ => none

theorem iter_ok {d : V} {v : Value} {ds : List V} {E : Value → Shared → Prop} {Q : Value → Shared → Prop} (I : Inv B Γ env G st s) (hv : Val G d v) (hd : iterOf d = some ds)
    (h : ∀ o, ItObj G o ds → o.isFreed = false → Q (.ref s.heap.objs.size) { s with heap := s.heap.push o }) : wpAny (model B.prog B.w) A (pyIter v) Q E s := by
  unfold iterOf at hd
  split at hd
  · rename_i b
    dsimp only [Val] at hv
    obtain ⟨t, rfl⟩ := hv
    cases hd
    exact KBw.pyIter_bytes (h { cls := .type "bytes_iterator", data := .fields #[.bytes b.toArray t, .int 0 0] } (.byt b t 0 _ rfl rfl) rfl)
  · dsimp only [Val] at hv
    obtain ⟨a, o, ws, m, rfl, h1, h2, h3, h4⟩ := hv
    cases hd
    exact wpAny_pyIter_list ⟨o, I.known _ _ h1, h2, m, h3⟩ (h { cls := .type "list_iterator", data := .fields #[.ref a, .int 0 0] } (.lst a o ws m 0 _ ds h1 h2 h3 h4 rfl rfl) rfl)
  · dsimp only [Val] at hv
    obtain ⟨a, ws, m, rfl, h1, h4⟩ := hv
    cases hd
    exact iter_tuple ⟨_, I.known _ _ h1, rfl, m, rfl⟩ (h { cls := .type "tuple_iterator", data := .fields #[.ref a, .int 0 0] } (.tup a ws m 0 _ ds h1 h4 rfl rfl) rfl)
  · rename_i k
    dsimp only [Val] at hv
    obtain ⟨a, o, t, u, x, rfl, h1, h2⟩ := hv
    split at hd
    · rename_i hk
      cases hd
      obtain rfl := h2
      refine wpAny_pyIter_range (I.known _ _ h1) (small_one (by lia) (by lia) (by lia) (by lia)) ?_
      have e : Builtin.Range.rangeSize 0 k 1 = ((k.toNat : Nat) : Int) := by rw [rangeSize_one]; split <;> lia
      rw [e]
      have hr : ItObj G { cls := .type "range_iterator", dict := none, data := .fields #[rawInt ((0 : Nat) : Int), rawInt ((k.toNat : Nat) : Int), rawInt 1], slots := #[] } ((List.range k.toNat).map fun (j : Nat) => .int j) := by
        rw [List.range_eq_range']; exact .rng 0 k.toNat
      exact h _ hr rfl
    · cases hd
  · cases hd

theorem next_ok {ia : Addr} {o : Obj} {ds : List V} {E : Value → Shared → Prop} {Q : Option Value → Shared → Prop} (hA : A.handled = none) (I : Inv B Γ env G st s) (_ : ¬ Used env G ia) (ho : s.heap.get? ia = some o) (hi : ItObj G o ds)
    (h0 : ds = [] → ∀ h', (∀ b o, b ≠ ia → s.heap.get? b = some o → h'.get? b = some o) → Q none { s with heap := h' })
    (h1 : ∀ d r v o' h' tk, ds = d :: r → Val G d v → ItObj G o' r → h'.get? ia = some o' → (∀ b o, b ≠ ia → s.heap.get? b = some o → h'.get? b = some o) → Q (some v) { s with heap := h', toks := tk }) :
    wpAny (model B.prog B.w) A (pyNext (.ref ia)) Q E s := by
  cases hi with
  | byt b t i o e1 e2 =>
    have hit : KBw.IsBytesIter s.heap ia b.toArray t i := ⟨o, ho, e1, e2⟩
    cases hb : b[i]? with
    | none =>
      refine KBw.next_end hA hit (by simpa using hb) fun h' he => h0 ?_ h' he
      have : b.length ≤ i := by simpa using hb
      rw [List.drop_eq_nil_of_le this]; rfl
    | some c =>
      refine KBw.next_item hit (by simpa using hb) fun h' hit' hs' => ?_
      obtain ⟨o', ho', g1, g2⟩ := hit'
      have hlt := (List.getElem?_eq_some_iff.mp hb).1
      have e : b.drop i = c :: b.drop (i + 1) := by
        rw [List.drop_eq_getElem_cons hlt]
        rw [(List.getElem?_eq_some_iff.mp hb).2]
      refine h1 (.int c.toNat) ((b.drop (i + 1)).map fun c => .int c.toNat) _ o' h' _ (by rw [e]; rfl) (by simp [Val]) (.byt b t (i + 1) o' g1 (by simpa using g2)) ho' hs'.extBut
  | lst l ol ws m i o ds k1 k2 k3 k4 e1 e2 =>
    have hit : s.heap.IsListIter ia l i := ⟨o, ho, e1, e2⟩
    have hl : s.heap.IsList l ws := ⟨ol, I.known _ _ k1, k2, m, k3⟩
    cases hb : ws[i]? with
    | none =>
      refine wpAny_pyNext_list_end hA hit hl hb fun h' he => h0 ?_ h' he
      have : ws.toList.length ≤ i := by simpa using hb
      rw [List.drop_eq_nil_of_le this] at k4
      cases ds with
      | nil => rfl
      | cons => simp [Vals] at k4
    | some v =>
      refine wpAny_pyNext_list_item hit hl hb fun h' hit' hs' => ?_
      obtain ⟨o', ho', g1, g2⟩ := hit'
      have hb' : ws.toList[i]? = some v := by simpa using hb
      have hlt := (List.getElem?_eq_some_iff.mp hb').1
      have e : ws.toList.drop i = v :: ws.toList.drop (i + 1) := by
        rw [List.drop_eq_getElem_cons hlt]
        rw [(List.getElem?_eq_some_iff.mp hb').2]
      rw [e] at k4
      cases ds with
      | nil => simp [Vals] at k4
      | cons d r =>
        dsimp only [Vals] at k4
        obtain ⟨v', r', hvr, q1, q2⟩ := k4
        cases hvr
        exact h1 d r v o' h' s.toks rfl q1 (.lst l ol ws m (i + 1) o' r k1 k2 k3 q2 g1 (by simpa using g2)) ho' hs'.extBut
  | tup l ws m i o ds k1 k4 e1 e2 =>
    have hit : IsTupIter s.heap ia l i := ⟨o, ho, e1, e2⟩
    have hl : IsTup s.heap l ws := ⟨_, I.known _ _ k1, rfl, m, rfl⟩
    cases hb : ws[i]? with
    | none =>
      refine next_tuple_end hA hit hl hb fun h' he => h0 ?_ h' he
      have : ws.toList.length ≤ i := by simpa using hb
      rw [List.drop_eq_nil_of_le this] at k4
      cases ds with
      | nil => rfl
      | cons => simp [Vals] at k4
    | some v =>
      refine next_tuple_item hit hl hb fun h' hit' hs' => ?_
      obtain ⟨o', ho', g1, g2⟩ := hit'
      have hb' : ws.toList[i]? = some v := by simpa using hb
      have hlt := (List.getElem?_eq_some_iff.mp hb').1
      have e : ws.toList.drop i = v :: ws.toList.drop (i + 1) := by
        rw [List.drop_eq_getElem_cons hlt]
        rw [(List.getElem?_eq_some_iff.mp hb').2]
      rw [e] at k4
      cases ds with
      | nil => simp [Vals] at k4
      | cons d r =>
        dsimp only [Vals] at k4
        obtain ⟨v', r', hvr, q1, q2⟩ := k4
        cases hvr
        exact h1 d r v o' h' s.toks rfl q1 (.tup l ws m (i + 1) o' r k1 q2 g1 (by simpa using g2)) ho' hs'.extBut
  | rng x k =>
    cases k with
    | zero => exact wpAny_pyNext_range_end hA ho (Int.le_refl _) fun h' he => h0 rfl h' he
    | succ k =>
      refine wpAny_pyNext_range_item (x := x) (left := ((k + 1 : Nat) : Int)) (step := 1) ho (by lia) fun h' hit' hs' => ?_
      refine h1 (.int x) ((List.range' (x + 1) k).map fun (j : Nat) => .int j) _ _ h' _ (by rw [List.range'_succ]; rfl) (by simp [Val]) (.rng (x + 1) k) ?_ hs'.extBut
      rw [hit']
      have : ((k + 1 : Nat) : Int) - 1 = ((k : Nat) : Int) := by lia
      rw [this]; rfl

theorem letGo_ok {ia : Addr} {o : Obj} {ds : List V} {E : Value → Shared → Prop} {target : Expr} {v : Value} {Q : Unit → Shared → Prop} {M : Model} (ho : s.heap.get? ia = some o) (hi : ItObj G o ds) (h : Q () s) : wpAny M A (letOwnedTupleGo target (.ref ia) v) Q E s := by
  have key : ∃ T fs, o.cls = .type T ∧ o.data = .fields fs ∧ ["enumerate", "zip", "dict_itemiterator", "dict_reverseitemiterator", "odict_iterator", "itertools.zip_longest", "itertools.pairwise"].contains T = false := by
    cases hi with
    | byt b t i o e1 e2 => exact ⟨_, _, e1, e2, by decide⟩
    | lst l ol ws m i o ds k1 k2 k3 k4 e1 e2 => exact ⟨_, _, e1, e2, by decide⟩
    | tup l ws m i o ds k1 k4 e1 e2 => exact ⟨_, _, e1, e2, by decide⟩
    | rng x k => exact ⟨_, _, rfl, rfl, by decide⟩
  obtain ⟨T, fs, hc, hd, hT⟩ := key
  unfold letOwnedTupleGo
  cases target <;> first
    | exact wpAny_pure h
    | (cases v <;> first
        | exact wpAny_pure h
        | (refine wpAny_bind (wpAny_load ho ?_)
           rw [hc, hd]
           dsimp only
           rw [hT]
           exact wpAny_pure h))

theorem Step.off {G₀ : Gh} {s₀ : Shared} (S : Step Γ env G₀ s₀ G s) {j : Addr} (hj : s₀.heap.get? j = none) {h' : Heap} {tk : Nat}
    (hk : ∀ b o, b ≠ j → s.heap.get? b = some o → h'.get? b = some o) : Step Γ env G₀ s₀ G { s with heap := h', toks := tk } where
  same := by obtain ⟨a, b, rfl⟩ := S.same; exact ⟨h', tk, rfl⟩
  le := S.le
  kn := S.kn
  on := S.on
  dn := S.dn
  keep := fun b o e n => by
    refine hk b o ?_ (S.keep b o e n)
    rintro rfl
    rw [hj] at e; cases e
  ex := fun b e => by
    by_cases hb : b = j
    · subst hb; exact hj
    · refine S.ex b ?_
      cases hq : s.heap.get? b with
      | none => rfl
      | some o => rw [show h'.get? b = some o from hk b o hb hq] at e; cases e

-- for
noncomputable def forL (tg : Tm) (body : Sx) : List V → Sx
  | [] => fun st Q => Q .next st
  | d :: ds => fun st Q => tg d st fun st₁ => body st₁ fun fl st₂ => match fl with
    | .next => forL tg body ds st₂ Q
    | .ret d => Q (.ret d) st₂
noncomputable def for' (f : Sm) (tg : Tm) (body : Sx) : Sx := fun st Q => f st fun d st₁ => match iterOf d with
  | some ds => forL tg body ds st₁ Q
  | none => False

theorem WC.forLoop {prog : Program} {w : World} {R : Flow → Shared → Prop} {target : Expr} {it : Value} {body : List Stmt} (I : Nat → Shared → Prop)
    (turn : ∀ n s, I n s → W (model prog w) A (pyNext it) (fun r s₁ => match r with
      | none => R .next s₁
      | some v => W (model prog w) A (letOwnedTupleGo target it v) (fun _ s₁' => W (model prog w) A (assign target env v) (fun _ s₂ => W (model prog w) A (execs body env) (fun f s₃ => match f with
          | .next | .cont => ∃ m, m < n ∧ I m s₃
          | .brk => R .next s₃
          | .ret v => R (.ret v) s₃) s₂) s₁') s₁) s)
    (n : Nat) (h : I n s) : WC (model prog w) A (.forLoop target it body [] env) R s := by
  refine WC.loop rfl rfl I (fun n s hI => ?_) n h
  show W _ A ((forTurn target it body [] env).onRaise (fun x => do noteFrame x env; theTreesLotGoes x)) _ s
  refine W.onRaise ?_
  dsimp only [forTurn]
  refine W.bind (W.standAt (W.bind (W.onRaise (W.mono (turn n s hI) fun r s₁ h₁ => ?_))))
  cases r with
  | none => exact W.pure (.inr ⟨rfl, rfl, C.block (C.execs_nil h₁)⟩)
  | some v =>
    refine W.bind (W.mono h₁ fun _ s₁' h₁' => W.bind (W.mono h₁' fun _ s₂ h₂ => W.bind (W.mono h₂ fun f s₃ h₃ => ?_)))
    cases f with
    | next => exact W.pure (.inl ⟨rfl, h₃⟩)
    | cont => exact W.pure (.inl ⟨rfl, h₃⟩)
    | brk => exact W.pure h₃
    | ret v => exact W.pure h₃

theorem Ex.for {target iter : Expr} {body : List Stmt} {pos : Pos} {f : Sm} {tg : Tm} {fb : Sx} (hf : Ev B n Γ iter f) (ht : Tg B Γ target tg) (hb : ExL B n Γ body fb)
    (hs : ∀ env x, foldedSetIterable iter env x = pure x := by intro _ _; rfl) : Ex B n Γ (.For target iter body [] pos) (for' f tg fb) := by
  refine ⟨?_⟩
  intro A env G st s Q hA I hq
  show W _ _ (exec (.For target iter body [] pos) env) _ _
  rw [exec_For]
  refine W.bind (W.standAt (W.bind (W.mono (hf.1 A env G st s _ hA I hq) (fun v s₁ ⟨d, st₁, G₁, h1, h2, h3, h4⟩ => ?_))))
  rw [hs]
  refine W.bind (W.pure (W.bind (W.standAt (W.bind (W.holding ?_)))))
  dsimp only at h1
  cases hd : iterOf d with
  | none => rw [hd] at h1; exact h1.elim
  | some ds =>
    rw [hd] at h1
    refine W.any (iter_ok h3 h2 hd fun o hio hfr => ?_)
    refine W.runOwn ?_ rfl
    have hk : ∀ b p, s₁.heap.get? b = some p → (s₁.heap.push o).get? b = some p := fun b p e => Heap.get?_push_of_some _ e
    have hun : ¬ Used env G₁ s₁.heap.objs.size := get_not_used h3
    refine WC.forLoop (fun j s₂ => ∃ ds st₂ G₂ o, j = ds.length ∧ forL tg fb ds st₂ Q ∧ Inv B Γ env G₂ st₂ s₂ ∧ Step Γ env G₁ s₁ G₂ s₂ ∧ s₂.heap.get? s₁.heap.objs.size = some o ∧ ItObj G₂ o ds ∧ ¬ Used env G₂ s₁.heap.objs.size)
      ?_ ds.length ⟨ds, st₁, G₁, o, rfl, h1, h3.keeps (tk := s₁.toks) hk, .keeps (tk := s₁.toks) hk, Heap.get?_push_size _ hfr, hio, hun⟩
    rintro j s₂ ⟨ds, st₂, G₂, o₂, rfl, k1, k2, k3, k4, k5, k6⟩
    refine W.any (next_ok hA.handled k2 k6 k4 k5 (fun e h' he => ?_) fun d r v o' h' tk e hv hio' ho' he => ?_)
    · subst e
      exact ⟨.next, st₂, G₂, k1, rfl, k2.off (tk := s₂.toks) k6 he, h4.trans (k3.off (tk := s₂.toks) (get_size _) he)⟩
    · subst e
      have I₂ := k2.off (tk := tk) k6 he
      have S₂ := k3.off (tk := tk) (get_size _) he
      refine W.any (letGo_ok (s := { s₂ with heap := h', toks := tk }) ho' hio' ?_)
      refine W.mono (ht.1 A env G₂ st₂ _ d v _ hA.handled I₂ hv k1) fun _ s₃ ⟨st₃, j1, j2, j3⟩ => ?_
      refine W.mono (hb.1 A env G₂ st₃ s₃ _ hA j2 j1) (fun f s₄ ⟨fl, st₄, G₄, q1, q2, q3, q4⟩ => ?_)
      have hu₃ : s₃.heap.get? s₁.heap.objs.size = some o' := j3.kept k6 ho'
      have hu₄ : s₄.heap.get? s₁.heap.objs.size = some o' := q4.kept k6 hu₃
      have hn₄ := q4.unused k6 (by rw [hu₃]; exact fun x => nomatch x)
      cases fl with
      | next =>
        cases (show f = .next from q2)
        exact ⟨r.length, Nat.lt_succ_self _, r, st₄, G₄, o', rfl, q1, q3, (S₂.trans j3).trans q4, hu₄, hio'.mono q4.le, hn₄⟩
      | ret d =>
        obtain ⟨v', rfl, hv'⟩ := q2
        exact ⟨.ret d, st₄, G₄, q1, ⟨v', rfl, hv'⟩, q3, h4.trans ((S₂.trans j3).trans q4)⟩
end
end

section
section
variable {M : Model} {A : Around} {s : Shared} {env : Env}
noncomputable def post (M : Model) (A : Around) (use : Option (Value → Sem Unit)) (Q : Value → Shared → Prop) (acc : Value) (C : Addr) (s' : Shared) : Prop :=
  match use with
  | none => ∃ m, s'.heap.Ns C m ∧ ∀ h', Heap.SameBut C s'.heap h' → Q acc { s' with heap := h' }
  | some u => W M A (u acc) (fun _ s'' => ∃ m, s''.heap.Ns C m ∧ ∀ h', Heap.SameBut C s''.heap h' → Q .none { s'' with heap := h' }) s'

theorem C.standIf {α : Type} {c : Prop} [Decidable c] {pos : Pos} {k : PUnit → Sem α} {Q : α → Shared → Prop} (h : W M A (k ()) Q s) :
    W M A (if c then (standAt pos >>= k) else k ()) Q s := by
  split
  · exact W.bind (W.standAt h)
  · exact h

theorem C.locals {scope : Scope} {cenv : Env} {l : List (Str × NameKind)} (hs : ∀ x ∈ scope.names, x.2 = .local → scope.names.lookup x.1 = some .local) (hl : ∀ y ∈ l, y ∈ scope.names) :
    ∀ y ∈ l, y.2 = .local → Env.kindOf { cenv with scope := relabel scope env } y.1 = some .local := fun y hy h => lookup_relabel_local (hs y (hl y hy) h)

theorem C.comp {e : Expr} {scope : Scope} {pos : Pos} {newAcc first : Sem Value} {g : Comprehension} {gs : List Comprehension} {cl : List (Str × Addr)} {use : Option (Value → Sem Unit)}
    {Q : Value → Shared → Prop}
    (hcl : clausesOf e = g :: gs) (hs : ∀ x, foldedSetIterable g.iter env x = pure x) (hclos : closureFor scope env = pure cl)
    (hkind : scope.kind = .function) (hnames : ∀ x ∈ scope.names, x.2 = .local → scope.names.lookup x.1 = some .local)
    (h : W M A first (fun x s₁ => W M A (pyIter x) (fun it s₂ => W M A newAcc (fun acc s₃ =>
      W M A (newFunctionEnv scope env.globals cl [] env.qual none .none (some env)) (fun cenv s₄ =>
        WC M A (.compStart e 0 it acc { cenv with scope := relabel scope env }) (fun _ => post M A use Q acc cenv.locals) s₄) s₃) s₂) s₁) s) :
    W M A (comprehension e scope env pos newAcc false first use) Q s := by
  unfold comprehension
  rw [hclos, hcl]
  refine W.bind (W.mono h fun x s₁ h₁ => ?_)
  refine W.bind (W.standAt ?_)
  refine W.bind (W.eq (hs x) ?_)
  refine W.bind (W.holding (W.mono h₁ fun it s₂ h₂ => ?_))
  refine C.standIf ?_
  refine W.bind (W.mono h₂ fun acc s₃ h₃ => ?_)
  refine W.bind (W.pure ?_)
  refine W.bind (W.mono h₃ fun cenv s₄ h₄ => ?_)
  dsimp only
  refine W.holding (W.bind (W.attempt (W.holding (W.run (WC.mono h₄ fun r s' hr => ?_) rfl))))
  cases use with
  | none =>
    obtain ⟨m, hn, hr⟩ := hr
    exact W.bind (W.holding (W.any (wpAny_comp_letGo (cenv := { cenv with scope := relabel scope env }) hkind _ s' m (C.locals hnames fun y hy => (List.mem_filter.mp (List.mem_reverse.mp hy)).1) hn fun h' m' _ hs' => W.pure (hr h' hs'))))
  | some u =>
    refine W.bind (W.rule (W.bind (W.holding (W.mono hr (fun _ s'' hr' => ?_)))))
    obtain ⟨m, hn, hr'⟩ := hr'
    exact W.bind (W.any (wpAny_comp_letGo (cenv := { cenv with scope := relabel scope env }) hkind _ s'' m (C.locals hnames fun y hy => (List.mem_filter.mp (List.mem_reverse.mp ((List.mem_append.mp hy).elim List.mem_of_mem_drop List.mem_of_mem_take))).1) hn fun h' m' _ hs' => W.pure (hr' h' hs')))
end

section
variable {B : Base} {n : Nat} {Γ Γc : Ctx} {env : Env} {G G' : Gh} {st : St} {s s' : Shared} {A : Around}

theorem forIn_pure {α β : Type} {f : α → β → Sem (ForInStep β)} {g : β → α → β} : ∀ {l : List α} (_ : ∀ x ∈ l, ∀ c, f x c = pure (.yield (g c x))) (c : β), forIn l c f = pure (l.foldl g c)
  | [], _, c => rfl
  | x :: l, h, c => by
    rw [List.forIn_cons, h x List.mem_cons_self, pure_bind]
    exact forIn_pure (fun y hy => h y (List.mem_cons_of_mem _ hy)) _

noncomputable def clo (env : Env) (cs : List (Str × Addr)) (x : Str × NameKind) : List (Str × Addr) := if x.2 == .free then (x.1, (env.cells.lookup x.1).getD 0) :: cs else cs
theorem closure_eq {scope : Scope} (h : ∀ x ∈ scope.names, x.2 = .free → ∃ c, env.cells.lookup x.1 = some c) : closureFor scope env = pure (scope.names.foldl (clo env) []) := by
  simp only [closureFor]
  rw [forIn_pure (g := clo env) (fun x hx c => by
    obtain ⟨y, k⟩ := x
    unfold clo
    by_cases hk : k = .free
    · subst hk
      obtain ⟨c', hc⟩ := h _ hx rfl
      simp only [beq_self_eq_true, if_true, cellOf, hc, Option.getD_some]
      rfl
    · have hb : (k == NameKind.free) = false := by simpa using hk
      simp only [hb, Bool.false_eq_true, if_false])]
  rfl
theorem clo_sound : ∀ {l : List (Str × NameKind)} {acc : List (Str × Addr)} (_ : ∀ x ∈ l, x.2 = .free → ∃ c, env.cells.lookup x.1 = some c) (_ : ∀ x c, acc.lookup x = some c → env.cells.lookup x = some c) (x : Str) (c : Addr), (l.foldl (clo env) acc).lookup x = some c → env.cells.lookup x = some c
  | [], _, _, ha, x, c, h => ha x c h
  | y :: l, acc, hl, ha, x, c, h => by
    refine clo_sound (l := l) (fun z hz => hl z (List.mem_cons_of_mem _ hz)) (fun x c hx => ?_) x c h
    unfold clo at hx
    split at hx
    · rename_i hk
      obtain ⟨c', hc⟩ := hl y List.mem_cons_self (by simpa using hk)
      rw [List.lookup_cons] at hx
      by_cases hxy : x = y.1
      · subst hxy
        simp only [beq_self_eq_true, hc, Option.getD_some, Option.some.injEq] at hx
        rw [hc, hx]
      · rw [beq_eq_false_iff_ne.mpr hxy] at hx
        exact ha x c hx
    · exact ha x c hx
theorem clo_has : ∀ {l : List (Str × NameKind)} {acc : List (Str × Addr)} {x : Str}, ((x, NameKind.free) ∈ l ∨ (acc.lookup x).isSome = true) → ((l.foldl (clo env) acc).lookup x).isSome = true
  | [], _, _, h => by rcases h with h | h; cases h; exact h
  | y :: l, acc, x, h => by
    refine clo_has (l := l) ?_
    by_cases hm : (x, NameKind.free) ∈ l
    · exact .inl hm
    · right
      unfold clo
      rcases h with h | h
      · rcases List.mem_cons.mp h with h | h
        · subst h
          simp
        · exact absurd h hm
      · split
        · rw [List.lookup_cons]
          split
          · rfl
          · exact h
        · exact h

structure CompOk (Γ Γc : Ctx) (scope : Scope) (caps : List Nat) : Prop where
  kind : scope.kind = .function
  names : Γc.names = (relabel scope (env0 Γ)).names
  fn : Γc.fn = false
  ok : Γc.ok = true
  nocell : (scope.names.all fun x => x.2 != .cell) = true
  locs : (scope.names.all fun x => x.2 != .local || scope.names.lookup x.1 == some .local) = true
  free : (scope.names.all fun x => x.2 != .free || Γ.vars.contains (some (x.1, true))) = true
  capv : Γc.vars.take caps.length = caps.map fun i => (Γ.vars[i]?).join
  capc : ((Γc.vars.take caps.length).all fun v => match v with | some (_, true) => true | _ => false) = true

noncomputable def inner (Γc : Ctx) (caps : List Nat) (st : St) : St := ⟨caps.map (fun i => (st.loc[i]?).join) ++ List.replicate (Γc.vars.length - caps.length) none, .fresh, st.dk⟩

theorem lookup_mem {α β : Type} [BEq α] [LawfulBEq α] : ∀ {l : List (α × β)} {x : α} {v : β}, l.lookup x = some v → (x, v) ∈ l
  | (y, w) :: l, x, v, h => by
    rw [List.lookup_cons] at h
    split at h
    · rename_i hxy
      cases h
      have := eq_of_beq hxy
      subst this
      exact List.mem_cons_self
    · exact List.mem_cons_of_mem _ (lookup_mem h)

theorem Inv.clos {scope : Scope} {caps : List Nat} (I : Inv B Γ env G st s) (K : CompOk Γ Γc scope caps) : closureFor scope env = pure (scope.names.foldl (clo env) []) := by
  refine closure_eq fun x hx hk => ?_
  have := List.all_eq_true.mp K.free x hx
  rw [hk] at this
  simp only [bne_self_eq_false, Bool.false_or, List.contains_iff_mem] at this
  obtain ⟨i, hi⟩ := List.getElem?_of_mem this
  exact I.cells i _ hi
theorem Inv.inner {scope : Scope} {caps : List Nat} (I : Inv B Γ env G st s) (K : CompOk Γ Γc scope caps) (hf : st.own = .fresh) {C : Addr} (hC : s.heap.get? C = none) {h' : Heap} {tk : Nat} {m : Str → Option Value}
    (hk : ∀ b o, s.heap.get? b = some o → h'.get? b = some o) (hn : h'.Ns C m) :
    closureFor scope env = pure (scope.names.foldl (clo env) []) ∧ Inv B Γc (compEnvC scope (scope.names.foldl (clo env) []) C env) G (Mine.inner Γc caps st) { s with heap := h', toks := tk } := by
  have hcell : ∀ i x, Γ.vars[i]? = some (some (x, true)) → ∃ c, env.cells.lookup x = some c := I.cells
  have hfree : ∀ x ∈ scope.names, x.2 = .free → ∃ c, env.cells.lookup x.1 = some c := fun x hx hk => by
    have := List.all_eq_true.mp K.free x hx
    rw [hk] at this
    simp only [bne_self_eq_false, Bool.false_or, List.contains_iff_mem] at this
    obtain ⟨i, hi⟩ := List.getElem?_of_mem this
    exact hcell i _ hi
  refine ⟨closure_eq hfree, ?_⟩
  have sound := fun x c => clo_sound (env := env) (l := scope.names) (acc := []) hfree (fun _ _ h => nomatch h) x c
  have hG : G.oa = none := I.own.none hf
  obtain ⟨m₀, cm, h1, h2, h3⟩ := I.ns
  have exC : ∀ x c, env.cells.lookup x = some c → ∃ o, s.heap.get? c = some o := fun x c e => by obtain ⟨o, e, _⟩ := h2 x c e; exact ⟨o, e⟩
  have neC : ∀ b, (∃ o, s.heap.get? b = some o) → b ≠ C := fun b ⟨o, e⟩ h => by rw [h, hC] at e; cases e
  have exD : ∀ p, G.dk = some p → (∃ o, s.heap.get? p.1 = some o) ∧ ∃ o, s.heap.get? p.2 = some o := fun p e => by
    have h := I.deck
    cases hd : st.dk with
    | none => rw [hd] at h; rw [show G.dk = none from h] at e; cases e
    | some d =>
      rw [hd] at h
      obtain ⟨p', t, v, ws, e1, ⟨o, es, ep, ho, r⟩, ⟨nc, hoc⟩, hi⟩ := h
      rw [e] at e1
      cases e1
      exact ⟨⟨o, ho⟩, ⟨_, hoc⟩⟩
  have enames : (relabel scope env).names = Γc.names := by
    rw [K.names]
    unfold relabel
    have h : ∀ x, env.kindOf x = (env0 Γ).kindOf x := fun x => I.kindOf x
    simp only [h, I.kind, show (env0 Γ).scope.kind = .function from rfl]
  have nocell : ∀ x, scope.names.lookup x ≠ some .cell := fun x h => by
    have := List.all_eq_true.mp K.nocell _ (lookup_mem h)
    simp at this
  have isfree : ∀ x, (relabel scope env).names.lookup x = some .cell → (x, NameKind.free) ∈ scope.names := fun x h => by
    have hm := lookup_mem h
    unfold relabel at hm
    obtain ⟨y, hy, e⟩ := List.mem_map.mp hm
    obtain ⟨z, k⟩ := y
    dsimp only at e
    split at e
    · rename_i hc
      simp only [Bool.and_eq_true, beq_iff_eq] at hc
      cases e
      rw [← hc.1.1]; exact hy
    · cases e
      have := List.all_eq_true.mp K.nocell _ hy
      simp at this
  exact {
    kind := K.kind
    names := enames
    globals := I.globals
    builtins := I.builtins
    base := I.base
    known := fun a o e => hk a o (I.known a o e)
    KL := by
      cases hq : G.K C with
      | none => exact hq
      | some o => exact absurd rfl (neC C ⟨o, I.known C o hq⟩)
    Kc := fun h => by rw [K.fn] at h; cases h
    Ko := fun c h => nomatch h
    Kd := I.Kd
    ns := by
      refine ⟨m, cm, hn, fun x c e => ?_, fun i x c d a1 a2 => ?_⟩
      · obtain ⟨o, ho, hd⟩ := h2 x c (sound x c e)
        exact ⟨o, hk c o ho, hd⟩
      · unfold Mine.inner at a2
        dsimp only at a2
        by_cases hi : i < caps.length
        · rw [List.getElem?_append_left (by simpa using hi), List.getElem?_map] at a2
          have hci : caps[i]? = some caps[i] := by simp [hi]
          rw [hci] at a2
          simp only [Option.map_some, Option.some.injEq] at a2
          have e1 : (Γc.vars.take caps.length)[i]? = (caps.map fun i => (Γ.vars[i]?).join)[i]? := by rw [K.capv]
          rw [List.getElem?_take, if_pos hi, List.getElem?_map, hci, a1] at e1
          simp only [Option.map_some, Option.some.injEq] at e1
          have e2 := List.all_eq_true.mp K.capc (some (x, c)) (List.mem_of_getElem? (i := i) (by rw [List.getElem?_take, if_pos hi]; exact a1))
          have hc : c = true := by
            cases c with
            | true => rfl
            | false => simp at e2
          subst hc
          have e3 : Γ.vars[caps[i]]? = some (some (x, true)) := by
            cases hq : Γ.vars[caps[i]]? with
            | none => rw [hq] at e1; cases e1
            | some y => rw [hq] at e1; rw [← show some (x, true) = y from e1]
          have e4 : st.loc[caps[i]]? = some (some d) := by
            cases hq : st.loc[caps[i]]? with
            | none => rw [hq] at a2; cases a2
            | some y => rw [hq] at a2; rw [show y = some d from a2]
          obtain ⟨v, b1, b2, b3⟩ := h3 _ x true d e3 e4
          exact ⟨v, b1, fun h => (nomatch h), b3⟩
        · rw [List.getElem?_append_right (by simpa using Nat.not_lt.mp hi), List.getElem?_replicate] at a2
          split at a2 <;> cases a2
    ok := K.ok
    cells := fun i x e => by
      have h1 := (ok_var K.ok e).1
      rw [← enames] at h1
      exact Option.isSome_iff_exists.mp (clo_has (.inl (isfree x h1)))
    cap := fun x y c h1 h2 => I.cap x y c (sound x c h1) (sound y c h2)
    cL := fun x c h => neC c (exC x c (sound x c h))
    oL := fun a h => by rw [hG] at h; cases h
    dL := fun p e => ⟨neC _ (exD p e).1, neC _ (exD p e).2, (I.dL p e).2.2.1, fun x c h => (I.dL p e).2.2.2.1 x c (sound x c h), fun a h => by rw [hG] at h; cases h⟩
    own := hG
    oex := fun a h => by rw [hG] at h; cases h
    deck := I.deck.mono (.refl _) I.deck.none fun p a o _ _ e => hk a o e }
end
end

section
section
variable {B : Base} {n : Nat} {Γ Γc : Ctx} {env : Env} {G G' : Gh} {st : St} {s s' : Shared} {A : Around}

theorem self_ok {prog : Program} {w : World} {ia : Addr} {o : Obj} {ds : List V} {E : Value → Shared → Prop} {Q : Value → Shared → Prop} (ho : s.heap.get? ia = some o) (hi : ItObj G o ds) (h : Q (.ref ia) s) :
    wpAny (model prog w) A (pyIter (.ref ia)) Q E s := by
  cases hi with
  | byt b t i o e1 e2 => exact KBw.pyIter_self ⟨o, ho, e1, e2⟩ h
  | lst l ol ws m i o ds k1 k2 k3 k4 e1 e2 => exact wpAny_pyIter_listiter ⟨o, ho, e1, e2⟩ h
  | tup l ws m i o ds k1 k4 e1 e2 => exact wpAny_pyIter_tupleiter ⟨o, ho, e1, e2⟩ h
  | rng x k => exact wpAny_pyIter_rangeiter ho h

theorem WC.compStart {prog : Program} {w : World} {R : Flow → Shared → Prop} {elt target iter ifs scope pos ia acc env} {o : Obj} {ds : List V} (ho : s.heap.get? ia = some o) (hi : ItObj G o ds)
    (h0 : WC (model prog w) A (.compLoop (.ListComp elt [⟨target, iter, ifs, 0⟩] scope pos) 0 (.ref ia) acc env) R s) :
    WC (model prog w) A (.compStart (.ListComp elt [⟨target, iter, ifs, 0⟩] scope pos) 0 (.ref ia) acc env) R s := by
  refine WC.tree ?_
  show W _ _ ((PySem.compStart (.ListComp elt [⟨target, iter, ifs, 0⟩] scope pos) 0 (.ref ia) acc env).onRaise (fun x => do noteFrame x env; standAt theWindowsPlace)) _ s
  refine W.onRaise ?_
  unfold PySem.compStart
  show W _ _ (ask >>= _) _ s
  refine W.bind (W.any (wpAny_askSetting (W.ite ?_)))
  split
  · first
      | exact W.bind (W.pure (W.pure ⟨rfl, rfl, h0⟩))
      | exact W.pure ⟨rfl, rfl, h0⟩
  · refine W.bind (W.rule ?_)
    show W _ _ (standAt iter.pos >>= _) _ s
    exact W.bind (W.standAt (W.bind (W.any (self_ok ho hi (W.pure ⟨rfl, rfl, h0⟩)))))

theorem WC.compLoop {prog : Program} {w : World} {R : Flow → Shared → Prop} {elt target iter : Expr} {ifs : List Expr} {scope : Scope} {pos : Pos} {it acc : Value} (I : Nat → Shared → Prop)
    (turn : ∀ n s, I n s → W (model prog w) A (pyNext it) (fun r s₁ => match r with
      | none => R .next s₁
      | some v => W (model prog w) A (assign target env v) (fun _ s₂ =>
          W (model prog w) A (forIn ifs true fun c r => if r = true then do let ok ← isTrue c env (eval c env); pure (ForInStep.yield ok) else pure (ForInStep.yield r)) (fun ok s₃ =>
            if ok = true then W (model prog w) A (eval elt env) (fun x s₄ =>
              W (model prog w) A (call (.builtin "list.append") [acc, x]) (fun _ s₅ => ∃ m, m < n ∧ I m s₅) s₄) s₃
            else ∃ m, m < n ∧ I m s₃) s₂) s₁) s)
    (n : Nat) (h : I n s) (ht : ∀ v, letOwnedTupleGo target it v = pure () := by intro _; rfl) :
    WC (model prog w) A (.compLoop (.ListComp elt [⟨target, iter, ifs, 0⟩] scope pos) 0 it acc env) R s := by
  refine WC.loop rfl rfl I (fun n s hI => ?_) n h
  show W _ _ ((compTurn (.ListComp elt [⟨target, iter, ifs, 0⟩] scope pos) 0 it acc env).onRaise (fun x => do noteFrame x env; theTreesLotGoes x)) _ s
  refine W.onRaise ?_
  rw [compTurn_list]
  refine W.bind (W.standAt (W.bind (W.mono (turn n s hI) (fun r s₁ h₁ => ?_))))
  cases r with
  | none => exact W.pure h₁
  | some v =>
    refine W.bind (W.eq (ht v) ?_)
    refine W.bind (W.mono h₁ fun _ s₂ h₂ => W.bind (W.mono h₂ fun ok s₃ h₃ => ?_))
    cases ok with
    | false => exact W.pure (.inl ⟨rfl, h₃⟩)
    | true =>
      refine W.bind (W.bind (W.mono h₃ fun x s₄ h₄ => W.bind (W.mono h₄ fun _ s₅ h₅ => ?_)))
      exact W.pure (W.pure (.inl ⟨rfl, h₅⟩))

/-- the clauses' tests -/
structure Cds (B : Base) (n : Nat) (Γ : Ctx) (ifs : List Expr) (f : Ts) : Prop where
  sat : Sat B n Γ relB (fun env => forIn ifs true fun c r => if r = true then do let ok ← isTrue c env (eval c env); pure (ForInStep.yield ok) else pure (ForInStep.yield r)) f
theorem Cds.nil : Cds B n Γ [] (tt true) := by
  refine ⟨?_⟩
  intro A env G st s Q hA I hf
  exact W.pure ⟨true, st, G, hf, rfl, I, .refl G s⟩
theorem Cds.one {c : Expr} {t : Ts} (h : Tst B n Γ c t) : Cds B n Γ [c] t := by
  refine ⟨?_⟩
  intro A env G st s Q hA I hf
  dsimp only
  rw [List.forIn_cons]
  show W _ _ ((do let ok ← isTrue c env (eval c env); pure (ForInStep.yield ok)) >>= _) _ _
  refine W.bind (W.bind (W.mono (h.1 A env G st s Q hA I hf) fun b s' hb => W.pure ?_))
  exact W.pure hb

noncomputable def compL (tg : Tm) (c : Ts) (e : Sm) : List V → List V → St → (List V → St → Prop) → Prop
  | [], acc, st, Q => Q acc st
  | d :: ds, acc, st, Q => tg d st fun st₁ => c st₁ fun b st₂ => match b with
    | true => e st₂ fun x st₃ => acc.length < 1000000 ∧ compL tg c e ds (acc ++ [x]) st₃ Q
    | false => compL tg c e ds acc st₂ Q
noncomputable def comp' (Γc : Ctx) (caps : List Nat) (f : Sm) (tg : Tm) (c : Ts) (e : Sm) : Sm := fun st Q => f st fun d st₁ => match iterOf d with
  | some ds => isFresh st₁.own ∧ compL tg c e ds [] (inner Γc caps st₁) fun acc st' => isFresh st'.own ∧ Q (.lst acc) { st₁ with dk := st'.dk }
  | none => False

theorem isFresh_eq {o : OwnSt} (h : isFresh o) : o = .fresh := by cases o <;> first | rfl | exact h.elim

theorem CStep.of {s₀ : Shared} {cenv : Env} {G₀ : Gh} (S : Step Γc cenv G₀ s₀ G s) (hL : s₀.heap.get? cenv.locals = none) (hf : Γc.fn = false) (ho : G.oa = none) : CStep { G₀ with oa := none } s₀ { G with oa := none } s where
  same := S.same
  le := ⟨S.le.K, fun _ h => (nomatch h), S.le.dk⟩
  kn := fun a h => by
    rcases S.kn a h with h | h | h
    · exact .inl h
    · exact .inr h
    · rw [ho] at h; cases h
  dn := S.dn
  keep := fun b o e hd => by
    refine S.keep b o e ?_
    rintro (u | ⟨u, _⟩ | u | ⟨p, hp, u⟩)
    · rw [u, hL] at e; cases e
    · rw [hf] at u; cases u
    · rw [ho] at u; cases u
    · rcases S.dn p hp with h | h
      · rcases u with u | u
        · exact (hd p h).1 u
        · exact (hd p h).2 u
      · rcases u with u | u
        · rw [u, h.1] at e; cases e
        · rw [u, h.2] at e; cases e
  ex := S.ex

theorem comp_core {e elt iter : Expr} {x : Str} {px : Pos} {ifs : List Expr} {scope : Scope} {pos : Pos} {caps : List Nat} {tg : Tm} {fc : Ts} {fe : Sm} {d : V} {v : Value} {ds : List V} {use : Option (Value → Sem Unit)} {P : Value → Shared → Prop} {Q : List V → Option Deck → Prop}
    (he : e = .ListComp elt [⟨.Name x px, iter, ifs, 0⟩] scope pos) (hA : Room n A) (I : Inv B Γ env G st s) (K : CompOk Γ Γc scope caps) (ht : Tg B Γc (.Name x px) tg) (hc : Cds B n Γc ifs fc) (hel : Ev B n Γc elt fe)
    (hv : Val G d v) (hd : iterOf d = some ds) (hf : st.own = .fresh) (hq : compL tg fc fe ds [] (inner Γc caps st) fun acc st' => isFresh st'.own ∧ Q acc st'.dk)
    (hP : ∀ acc D C G' dk' s', Q acc dk' → Val G' (.lst acc) (.ref D) → Inv B Γ env G' { st with dk := dk' } s' → Step Γ env G s G' s' → ¬ Used env G' C → s.heap.get? C = none → (∃ m, s'.heap.Ns C m) → post (model B.prog B.w) A use P (.ref D) C s') :
    W (model B.prog B.w) A (pyIter v) (fun it s₂ => W (model B.prog B.w) A (newList []) (fun acc s₃ =>
      W (model B.prog B.w) A (newFunctionEnv scope env.globals (scope.names.foldl (clo env) []) [] env.qual none .none (some env)) (fun cenv s₄ =>
        WC (model B.prog B.w) A (.compStart e 0 it acc { cenv with scope := relabel scope env }) (fun _ => post (model B.prog B.w) A use P acc cenv.locals) s₄) s₃) s₂) s := by
  subst he
  refine W.any (iter_ok I hv hd fun o hio hfr => ?_)
  refine W.any (wpAny_newObj_type (hd := by size_fits) ?_)
  have hnc : ∀ x ∈ scope.names, x.2 ≠ .cell := fun x hx h => by
    have := List.all_eq_true.mp K.nocell x hx
    rw [h] at this
    simp at this
  refine W.any (wpAny_newFunctionEnv hnc (by intro y hy; simp at hy) (fun h₁ hns₁ hsb₁ => ?_) K.kind)
  dsimp only at hns₁ hsb₁ ⊢
  have hG : G.oa = none := I.own.none hf
  obtain ⟨IA, hIA⟩ : ∃ a, a = s.heap.objs.size := ⟨_, rfl⟩
  rw [← hIA]
  generalize hH1 : s.heap.push o = H1 at hns₁ hsb₁ ⊢
  have hD : H1.objs.size = IA + 1 := by rw [← hH1, Heap.size_push, hIA]
  generalize hH2 : H1.push { cls := .type "list", dict := none, data := .seq ([] : List Value).toArray } = H2 at hns₁ hsb₁ ⊢
  have hC : H2.objs.size = IA + 2 := by rw [← hH2, Heap.size_push, hD]
  obtain ⟨D, hDD⟩ : ∃ a, a = H1.objs.size := ⟨_, rfl⟩
  obtain ⟨C, hCC⟩ : ∃ a, a = H2.objs.size := ⟨_, rfl⟩
  rw [← hCC] at hns₁ hsb₁ ⊢
  rw [← hDD]
  have hDe : D = IA + 1 := by rw [hDD, hD]
  have hCe : C = IA + 2 := by rw [hCC, hC]
  have fresh : ∀ a, IA ≤ a → s.heap.get? a = none := fun a ha => by
    cases e : s.heap.get? a with
    | none => rfl
    | some o' => exact absurd (Heap.lt_size e) (Nat.not_lt.mpr (by rw [← hIA]; exact ha))
  have aIA : s.heap.get? IA = none := fresh _ (Nat.le_refl _)
  have aD : s.heap.get? D = none := fresh _ (by rw [hDe]; exact Nat.le_succ _)
  have aC : s.heap.get? C = none := fresh _ (by rw [hCe]; exact Nat.le_add_right _ _)
  have neDI : D ≠ IA := by rw [hDe]; exact Nat.succ_ne_self _
  have neCI : IA ≠ C := by rw [hCe]; lia
  have neDC : D ≠ C := by rw [hDe, hCe]; lia
  have lt : ∀ b o', s.heap.get? b = some o' → b < IA := fun b o' e => by rw [hIA]; exact Heap.lt_size e
  have old : ∀ b o', s.heap.get? b = some o' → h₁.get? b = some o' := fun b o' e =>
    hsb₁.extBut b o' (fun x => by have := lt b o' e; rw [x, hCe] at this; exact absurd this (Nat.not_lt.mpr (Nat.le_add_right _ _))) (Heap.get?_push_of_some _ (hH2 ▸ Heap.get?_push_of_some _ (hH1 ▸ Heap.get?_push_of_some _ e)))
  have hit : h₁.get? IA = some o := hsb₁.extBut _ _ neCI (Heap.get?_push_of_some _ (hH2 ▸ Heap.get?_push_of_some _ (hH1 ▸ hIA ▸ Heap.get?_push_size _ hfr)))
  have hacc : h₁.PlainList D #[] := ⟨_, hsb₁.extBut _ _ neDC (Heap.get?_push_of_some _ (hH2 ▸ hDD ▸ Heap.get?_push_size _ rfl))⟩
  have I₁ := (I.inner (tk := s.toks) K hf aC old hns₁).2
  have exU : ∀ b, Used env G b → b < IA := fun b u => by rw [hIA]; exact I.lt u
  have hu : ∀ b, IA ≤ b → b ≠ C → ¬ Used (compEnvC scope (scope.names.foldl (clo env) []) C env) G b := fun b hb hbC u => by
    rcases u with u | u | ⟨x, u⟩ | u | u
    · exact Nat.lt_irrefl _ (Nat.lt_of_lt_of_le (exU b (.inl u)) hb)
    · exact hbC u
    · have hfree : ∀ x ∈ scope.names, x.2 = .free → ∃ c, env.cells.lookup x.1 = some c := fun x hx hk => by
        have := List.all_eq_true.mp K.free x hx
        rw [hk] at this
        simp only [bne_self_eq_false, Bool.false_or, List.contains_iff_mem] at this
        obtain ⟨i, hi⟩ := List.getElem?_of_mem this
        exact I.cells i _ hi
      have := clo_sound (env := env) (l := scope.names) (acc := []) hfree (fun _ _ h => nomatch h) x b u
      exact Nat.lt_irrefl _ (Nat.lt_of_lt_of_le (exU b (.inr (.inr (.inl ⟨x, this⟩)))) hb)
    · exact Nat.lt_irrefl _ (Nat.lt_of_lt_of_le (exU b (.inr (.inr (.inr (.inl u))))) hb)
    · exact Nat.lt_irrefl _ (Nat.lt_of_lt_of_le (exU b (.inr (.inr (.inr (.inr u))))) hb)
  refine WC.compStart hit hio ?_
  refine WC.compLoop (env := compEnvC scope (scope.names.foldl (clo env) []) C env) (fun j s₂ => ∃ ds acc st₂ G₂ o ws, j = ds.length ∧ compL tg fc fe ds acc st₂ (fun acc st' => isFresh st'.own ∧ Q acc st'.dk) ∧
    Inv B Γc (compEnvC scope (scope.names.foldl (clo env) []) C env) G₂ st₂ s₂ ∧ Step Γc (compEnvC scope (scope.names.foldl (clo env) []) C env) G s G₂ s₂ ∧
    s₂.heap.get? IA = some o ∧ ItObj G₂ o ds ∧ ¬ Used (compEnvC scope (scope.names.foldl (clo env) []) C env) G₂ IA ∧
    s₂.heap.PlainList D ws ∧ Vals G₂ acc ws.toList ∧ ¬ Used (compEnvC scope (scope.names.foldl (clo env) []) C env) G₂ D)
    ?_ ds.length ⟨ds, [], _, G, o, #[], rfl, hq, I₁, .keeps (tk := s.toks) old, hit, hio, hu _ (Nat.le_refl _) neCI, hacc, by simp [Vals], hu _ (by lia) neDC⟩
  generalize hce : compEnvC scope (scope.names.foldl (clo env) []) C env = cenv
  have hcl : cenv.locals = C := by rw [← hce]; rfl
  rintro j s₂ ⟨ds, acc, st₂, G₂, o₂, ws, rfl, k1, k2, k3, k4, k5, k6, k7, k8, k9⟩
  refine W.any (next_ok hA.handled k2 k6 k4 k5 (fun e h' he => ?_) fun d r v o' h' tk e hv hio' ho' he => ?_)
  · subst e
    obtain ⟨q1, q2⟩ := k1
    obtain ⟨m7, k7⟩ := k7
    have I' := k2.off (tk := s₂.toks) k6 he
    have S' := k3.off (tk := s₂.toks) aIA he
    have e7 := he D _ neDI k7
    have hn : G₂.K D = none := by
      cases hq : G₂.K D with
      | none => rfl
      | some p => exact absurd (.inl (by rw [hq]; exact fun x => nomatch x)) k9
    have I₃ := I'.know e7 hn (fun x => k9 (.inr (.inl x))) (fun x c hx hc => k9 (.inr (.inr (.inl ⟨x, hc ▸ hx⟩)))) (fun c _ hx => k9 (.inr (.inr (.inr (.inl hx)))))
      (fun p hp => ⟨fun x => k9 (.inr (.inr (.inr (.inr ⟨p, hp, .inl x⟩)))), fun x => k9 (.inr (.inr (.inr (.inr ⟨p, hp, .inr x⟩))))⟩)
    have S₃ := S'.know (o := { cls := .type "list", data := .seq ws m7 }) hn (.inl aD)
    have h3o : (G₂.know D { cls := .type "list", data := .seq ws m7 }).oa = none := I₃.own.none (isFresh_eq q1)
    have cs := CStep.of S₃ (by rw [hcl]; exact aC) K.fn h3o
    obtain ⟨I₄, S₄⟩ := I.called I₃.callInv cs
    obtain ⟨m, _, hm, _⟩ := I₃.ns
    refine hP acc D C _ st₂.dk _ q2 ?_ I₄ S₄ ?_ aC ⟨m, hcl ▸ hm⟩
    · have hv : Val (G₂.know D { cls := .type "list", data := .seq ws m7 }) (.lst acc) (.ref D) := by
        simp only [Val]
        exact ⟨D, _, ws, m7, rfl, know_at, rfl, rfl, k8.mono (Gle.know hn)⟩
      rw [Gh.eta h3o] at hv
      exact hv.reown
    · rintro (u | u | ⟨x, u⟩ | u | ⟨p, hp, u⟩)
      · exact u (by have := I₃.KL; rw [hcl] at this; exact this)
      · have := exU _ (.inr (.inl u)); rw [hCe] at this; exact absurd this (Nat.not_lt.mpr (Nat.le_add_right _ _))
      · have := exU _ (.inr (.inr (.inl ⟨x, u⟩))); rw [hCe] at this; exact absurd this (Nat.not_lt.mpr (Nat.le_add_right _ _))
      · rw [show G.oa = some C from u] at hG; cases hG
      · have := I₃.dL p hp
        rw [hcl] at this
        rcases u with u | u
        · exact this.1 u.symm
        · exact this.2.1 u.symm
  · subst e
    obtain ⟨m7, k7⟩ := k7
    have I₂ := k2.off (tk := tk) k6 he
    have S₂ := k3.off (tk := tk) aIA he
    have e7 := he D _ neDI k7
    refine W.mono (ht.1 A cenv G₂ st₂ _ d v _ hA.handled I₂ hv k1) fun _ s₃ ⟨st₃, j1, j2, j3⟩ => ?_
    have u₃ := j3.kept k6 ho'
    have v₃ := j3.kept k9 e7
    refine W.mono (hc.1 A cenv G₂ st₃ s₃ _ hA j2 j1) fun b s₄ ⟨b', st₄, G₄, q1, q2, q3, q4⟩ => ?_
    cases q2
    have u₄ := q4.kept k6 u₃
    have v₄ := q4.kept k9 v₃
    have n₄ := q4.unused k6 (by rw [u₃]; exact fun x => nomatch x)
    have w₄ := q4.unused k9 (by rw [v₃]; exact fun x => nomatch x)
    cases b with
    | false =>
      rw [if_neg (by decide)]
      exact ⟨r.length, Nat.lt_succ_self _, r, acc, st₄, G₄, o', ws, rfl, q1, q3, (S₂.trans j3).trans q4, u₄, hio'.mono q4.le, n₄, ⟨m7, v₄⟩, k8.mono q4.le, w₄⟩
    | true =>
      rw [if_pos rfl]
      refine W.mono (hel.1 A cenv G₄ st₄ s₄ _ hA q3 q1) fun y s₅ ⟨dy, st₅, G₅, p1, p2, p3, p4⟩ => ?_
      have u₅ := p4.kept n₄ u₄
      have v₅ := p4.kept w₄ v₄
      have n₅ := p4.unused n₄ (by rw [u₄]; exact fun x => nomatch x)
      have w₅ := p4.unused w₄ (by rw [v₄]; exact fun x => nomatch x)
      obtain ⟨pl, p1⟩ := p1
      have k8' := (k8.mono q4.le).mono p4.le
      have el := k8'.length
      rw [Array.length_toList] at el
      refine W.any (wpAny_list_append_plain (items := ws) ⟨m7, v₅⟩ (fun h' e5 e6 => ?_) (by rw [el]; exact line_le (Nat.le_of_lt pl)))
      refine ⟨r.length, Nat.lt_succ_self _, r, acc ++ [dy], st₅, G₅, o', ws.push y, rfl, p1, p3.off (tk := s₅.toks) w₅ e6.extBut, (((S₂.trans j3).trans q4).trans p4).off (tk := s₅.toks) aD e6.extBut, e6.extBut _ _ neDI.symm u₅, (hio'.mono q4.le).mono p4.le, n₅, e5, ?_, w₅⟩
      rw [Array.toList_push]
      exact k8'.append (by simp only [Vals]; exact ⟨y, [], rfl, p2, rfl⟩)
end
end

section
section
variable {B : Base} {n : Nat} {Γ Γc : Ctx} {env : Env} {G G' : Gh} {st : St} {s s' : Shared} {A : Around}

theorem comp_pos {elt iter : Expr} {x : Str} {px : Pos} {ifs : List Expr} {scope : Scope} {pos : Pos} {env : Env} : eval (.ListComp elt [⟨.Name x px, iter, ifs, 0⟩] scope pos) env =
    comprehension (.ListComp elt [⟨.Name x px, iter, ifs, 0⟩] scope pos) scope env (firstIterPos [⟨.Name x px, iter, ifs, 0⟩] pos) (newList []) false (eval iter env) := rfl

theorem CompOk.hnames {scope : Scope} {caps : List Nat} (K : CompOk Γ Γc scope caps) : ∀ x ∈ scope.names, x.2 = .local → scope.names.lookup x.1 = some .local := fun x hx h => by
  have := List.all_eq_true.mp K.locs x hx
  rw [h] at this
  simpa using this

theorem Ev.comp {elt iter : Expr} {x : Str} {px : Pos} {ifs : List Expr} {scope : Scope} {pos : Pos} {caps : List Nat} {f : Sm} {tg : Tm} {fc : Ts} {fe : Sm}
    (K : CompOk Γ Γc scope caps) (hf : Ev B n Γ iter f) (ht : Tg B Γc (.Name x px) tg) (hc : Cds B n Γc ifs fc) (hel : Ev B n Γc elt fe) (hs : ∀ env v, foldedSetIterable iter env v = pure v := by intro _ _; rfl) :
    Ev B n Γ (.ListComp elt [⟨.Name x px, iter, ifs, 0⟩] scope pos) (comp' Γc caps f tg fc fe) := by
  refine ⟨?_⟩
  intro A env G st s Q hA I hq
  show W _ _ (eval (.ListComp elt [⟨.Name x px, iter, ifs, 0⟩] scope pos) env) _ _
  rw [comp_pos]
  refine C.comp (use := Option.none) rfl (hs env) (I.clos K) K.kind K.hnames ?_
  refine W.mono (hf.1 A env G st s _ hA I hq) fun v s₁ ⟨d, st₁, G₁, h1, h2, h3, h4⟩ => ?_
  dsimp only at h1
  cases hd : iterOf d with
  | none => rw [hd] at h1; exact h1.elim
  | some ds =>
    rw [hd] at h1
    refine comp_core (Q := fun acc dk => Q (.lst acc) { st₁ with dk := dk }) rfl hA h3 K ht hc hel h2 hd (isFresh_eq h1.1) h1.2 fun acc D C G' dk' s' q1 q2 q3 q4 q5 q6 q7 => ?_
    obtain ⟨m, hm⟩ := q7
    refine ⟨m, hm, fun h' hs' => ?_⟩
    exact ⟨.lst acc, _, G', q1, q2, q3.off (tk := s'.toks) q5 hs'.extBut, h4.trans (q4.off (tk := s'.toks) q6 hs'.extBut)⟩

/-- x = [..], the name stored before the comprehension's own name goes -/
theorem Ex.putC (i : Nat) {elt iter : Expr} {x y : Str} {px py : Pos} {ifs : List Expr} {scope : Scope} {pos spos : Pos} {caps : List Nat} {f : Sm} {tg : Tm} {fc : Ts} {fe : Sm}
    (K : CompOk Γ Γc scope caps) (hf : Ev B n Γ iter f) (ht : Tg B Γc (.Name x px) tg) (hc : Cds B n Γc ifs fc) (hel : Ev B n Γc elt fe) (hy : Γ.vars[i]? = some (some (y, false)) := by rfl)
    (hsw : swapsWith (.ListComp elt [⟨.Name x px, iter, ifs, 0⟩] scope pos) (some (.Name y py)) spos.line (env0 Γ) = pure true := by rfl) (hs : ∀ env v, foldedSetIterable iter env v = pure v := by intro _ _; rfl) :
    Ex B n Γ (.Assign [.Name y py] (.ListComp elt [⟨.Name x px, iter, ifs, 0⟩] scope pos) spos) (Mine.put i (comp' Γc caps f tg fc fe)) := by
  refine ⟨?_⟩
  intro A env G st s Q hA I hq
  show W _ _ (exec (.Assign [.Name y py] (.ListComp elt [⟨.Name x px, iter, ifs, 0⟩] scope pos) spos) env) _ _
  rw [exec_Assign_Name_used _ _ _ _ (by rw [I.swaps]; exact hsw)]
  refine W.bind (W.standAt (W.bind ?_))
  show W _ A (do let _ ← comprehension (.ListComp elt [⟨.Name x px, iter, ifs, 0⟩] scope pos) scope env _ (newList []) false (eval iter env) (some (assign (.Name y py) env))) _ _
  refine W.bind (W.mono (C.comp (use := some (assign (.Name y py) env)) (Q := fun _ s' => Out B Γ env G s relF Q .next s') rfl (hs env) (I.clos K) K.kind K.hnames ?_) fun _ s' hq => W.pure (W.pure hq))
  refine W.mono (hf.1 A env G st s _ hA I hq) fun v s₁ ⟨d, st₁, G₁, h1, h2, h3, h4⟩ => ?_
  dsimp only at h1
  cases hd : iterOf d with
  | none => rw [hd] at h1; exact h1.elim
  | some ds =>
    rw [hd] at h1
    refine comp_core (Q := fun acc dk => Q .next (St.set { st₁ with dk := dk } i (.lst acc))) rfl hA h3 K ht hc hel h2 hd (isFresh_eq h1.1) h1.2 fun acc D C G' dk' s' q1 q2 q3 q4 q5 q6 q7 => ?_
    obtain ⟨m, hm⟩ := q7
    show W _ _ (do PySem.standAt py; bindName env y (.ref D)) _ _
    refine W.bind (W.standAt (W.any (bindName_ (store_var q3 hy (fun h => nomatch h) q2 fun s'' I' S' => ?_))))
    refine ⟨m, hm.at' fun o e => S'.kept q5 e, fun h' hs' => ?_⟩
    refine ⟨.next, _, G', q1, rfl, I'.off (tk := s''.toks) q5 hs'.extBut, h4.trans ((q4.trans S').off (tk := s''.toks) q6 hs'.extBut)⟩

theorem Ex.put' (i : Nat) {x : Str} {c : Bool} {e : Expr} {p pos : Pos} {f : Sm} (h : Ev B n Γ e f) (hx : Γ.vars[i]? = some (some (x, c)) := by rfl) (hc : c = true → Γ.fn = true := by decide)
    (hs : swapsWith e (some (.Name x p)) pos.line (env0 Γ) = pure false := by rfl) : Ex B n Γ (.Assign [.Name x p] e pos) (Mine.put i f) := by
  refine ⟨?_⟩
  intro A env G st s Q hA I hf
  refine C.AssignS (by rw [I.swaps]; exact hs) (W.mono (h.1 A env G st s _ hA I hf) (fun v s₁ ⟨d, st₁, G₁, h1, h2, h3, h4⟩ => ?_))
  refine W.any (store_var h3 hx hc h2 fun s' I' S' => ?_)
  exact ⟨.next, _, G₁, h1, rfl, I', h4.trans S'⟩
end
end

section
namespace LB
set_option maxRecDepth 100000
/-- the list at S holds the octets of x one by one; all else stands as it stood -/
noncomputable def Fills (x : Array UInt8) (S : Addr) (s s' : Shared) : Prop := ∃ h k vs c, s' = { s with heap := h, toks := k } ∧ (∀ b o, b ≠ S → s.heap.get? b = some o → h.get? b = some o) ∧
  h.get? S = some { cls := .type "list", dict := none, data := .seq vs c, slots := #[] } ∧ vs.size = x.size ∧ ∀ (j : Nat) (v : Value), vs[j]? = some v → ∃ (c : UInt8) (u : Tok), x[j]? = some c ∧ v = .int (c.toNat : Int) u
/-- the walker that iter(x) makes -/
noncomputable def walker (x : Array UInt8) (t : Tok) : Obj := { cls := .type "bytes_iterator", data := .fields #[.bytes x t, .int 0 0] }
abbrev Next (prog : Program) (w : World) (A : Around) (R : Result → Shared → Prop) : Fin → Shared → Prop := fun fin s' => match fin with
  | .done f => R (.ok f) s'
  | .again c' => c'.quiet = true ∧ codeAny (model prog w) A c' R s'
section
variable {prog : Program} {w : World} {A : Around} {s : Shared} {x : Array UInt8} {t : Tok} {S : Addr} {r : Value} {R : Result → Shared → Prop}

theorem hint {E : Value → Shared → Prop} {Q : Bool → Shared → Prop} (h : Q false s) : wpAny (model prog w) A (Builtin.List.listLengthHint (.bytes x t)) Q E s := by
  have ty : typeOf (.bytes x t) = pure (.type "bytes") := rfl
  unfold Builtin.List.listLengthHint
  refine wpAny_bind (wpAny_specialOf_val ty FB.slot_bytes_len.lookup ?_)
  wp_delta
  refine wpAny_bind (wpAny_isInstance_val ty (b := true) (by rw [isSubtype_type]; kernel_rfl) ?_)
  refine wpAny_of_eq (a := false) ?_ h
  rfl

theorem loop (hh : A.handled = none) (hn : x.size ≤ sizeLine) {c : Nat} (hS : s.heap.get? S = some { cls := .type "list", data := .seq #[] c }) (h : ∀ s', Fills x S s s' → R (.ok (.ret r)) s') :
    codeAny (model prog w) A (.builtin "list.extend.loop" ⟨[.ref S, .ref s.heap.objs.size, r], []⟩) R { s with heap := s.heap.push (walker x t) } := by
  have other : S ≠ s.heap.objs.size := fun e => Nat.lt_irrefl _ (e ▸ Heap.lt_size hS)
  refine codeAny_extend_loopS (KBw.walks (A := A.in1) hh s.heap.objs.size x t).toS hn S ?_ r x.size 0 _ #[] c rfl (Nat.zero_le _) ?_ (Heap.get?_push_of_some _ hS) (ItemsOf.nil _) ?_
  · intro hm
    exact other (List.mem_singleton.mp hm)
  · exact ⟨_, Heap.get?_push_size _ rfl, rfl, rfl⟩
  · intro s' vs c' moved at' items
    refine h s' ⟨s'.heap, s'.toks, vs, c', by have e := Moved.eq_with moved; exact e, fun b o ne e => ?_, at', items.1, items.2⟩
    refine moved.heap b o ?_ (Heap.get?_push_of_some _ e)
    have ne' : b ≠ s.heap.objs.size := fun q => Nat.lt_irrefl _ (q ▸ Heap.lt_size e)
    intro hm
    cases hm with
    | head => exact ne rfl
    | tail _ hm => exact ne' (List.mem_singleton.mp hm)

theorem extend (hh : A.handled = none) (hn : x.size ≤ sizeLine) {c : Nat} (hS : s.heap.get? S = some { cls := .type "list", data := .seq #[] c }) (h : ∀ s', Fills x S s s' → R (.ok (.ret r)) s') :
    wpAny (model prog w) A.in1 (Builtin.List.listExtendWith (.ref S) (.bytes x t) r) (Next prog w A R) (fun e s' => R (.error e) s') s := by
  unfold Builtin.List.listExtendWith
  refine wpAny_bind (wpAny_of_eq (show typeOf (.bytes x t) = pure (.type "bytes") from rfl) ?_)
  have same : Builtin.List.listSameRef (.ref S) (.bytes x t) = false := rfl
  rw [same, if_neg (by decide)]
  refine wpAny_bind (KBw.pyIter_bytes (wpAny_bind (wpAny_holding (hint ?_))))
  rw [if_neg (by decide)]
  exact wpAny_pure ⟨plainId_quiet F.plain_extend_loop _, loop hh hn hS h⟩

theorem init (hh : A.handled = none) (hn : x.size ≤ sizeLine) (hS : s.heap.get? S = some { cls := .type "list", data := .seq #[] }) (h : ∀ s', Fills x S s s' → R (.ok (.ret .none)) s') :
    wpAny (model prog w) A.in1 (Builtin.«list.__init__» ⟨[.ref S, .bytes x t], []⟩) (Next prog w A R) (fun e s' => R (.error e) s') s := by
  have items : ∀ {Q : Array Value → Shared → Prop} {E : Value → Shared → Prop}, Q #[] s → wpAny (model prog w) A.in1 (Builtin.List.listItems (.ref S)) Q E s := fun h => by
    unfold Builtin.List.listItems
    exact wpAny_bind (wpAny_seqItems hS rfl (wpAny_pure h))
  refine wpAny_bind (items ?_)
  refine wpAny_bind (wpAny_updateSeq hS rfl (wpAny_bind (wpAny_letGo ?_)))
  refine extend hh hn (Heap.get?_update_self (Obj.mapSeq fun _ => (#[] : Array Value)) hS rfl) fun s' hs => h s' ?_
  obtain ⟨hp, k, vs, c, e, keep, at', n, i⟩ := hs
  exact ⟨hp, k, vs, c, e, fun b o ne hb => keep b o ne ((Heap.get?_update_other _ _ (Ne.symm ne)).trans hb), at', n, i⟩

theorem call_ok {E : Value → Shared → Prop} (hh : A.handled = none) (x : Array UInt8) (t : Tok) (hn : x.size ≤ sizeLine) :
    wpAny (model prog w) A (call (.type "list") [.bytes x t]) (fun v s' => v = .ref s.heap.objs.size ∧ ∃ h k vs c, s' = { s with heap := h, toks := k } ∧ (∀ b o, s.heap.get? b = some o → h.get? b = some o) ∧
      h.get? s.heap.objs.size = some { cls := .type "list", dict := none, data := .seq vs c, slots := #[] } ∧ vs.size = x.size ∧ ∀ (j : Nat) (v : Value), vs[j]? = some v → ∃ (c : UInt8) (u : Tok), x[j]? = some c ∧ v = .int (c.toNat : Int) u) E s := by
  refine callType_codes F.called_list (F.typeCall_list_1 _) F.entry_list_init (code_list_new (Q₁ := fun o s' => o = .ref s.heap.objs.size ∧ s' = { s with heap := s.heap.push { cls := .type "list", data := .seq #[] } }) _ ⟨rfl, rfl⟩) ?_
  rintro o s₁ ⟨rfl, rfl⟩
  have new := Heap.get?_push_size s.heap (o := { cls := .type "list", data := .seq #[] }) rfl
  refine ⟨⟨_, new, rfl⟩, F.args_list_init_2 _ _, init (A := A.in1) hh hn new fun s' hs => ?_⟩
  obtain ⟨hp, k, vs, c, e, keep, at', n, i⟩ := hs
  refine ⟨rfl, rfl, hp, k, vs, c, e, fun b o hb => keep b o ?_ (Heap.get?_push_of_some _ hb), at', n, i⟩
  exact fun q => Nat.lt_irrefl _ (q ▸ Heap.lt_size hb)
end
end LB
end

section
section
variable {B : Base} {n : Nat} {Γ Γc : Ctx} {env : Env} {G G' : Gh} {st : St} {s s' : Shared} {A : Around}

theorem Inv.fresh (I : Inv B Γ env G st s) {o : Obj} {h' : Heap} {tk : Nat} (hk : ∀ b p, s.heap.get? b = some p → h'.get? b = some p) (ho : h'.get? s.heap.objs.size = some o) :
    Inv B Γ env (G.know s.heap.objs.size o) st { s with heap := h', toks := tk } ∧ Step Γ env G s (G.know s.heap.objs.size o) { s with heap := h', toks := tk } := by
  have k9 := get_not_used I
  have hn : G.K s.heap.objs.size = none := by
    cases hq : G.K s.heap.objs.size with
    | none => rfl
    | some p => exact absurd (.inl (by rw [hq]; exact fun x => nomatch x)) k9
  refine ⟨(I.keeps (tk := tk) hk).know ho hn (fun x => k9 (.inr (.inl x))) (fun x c hx hc => k9 (.inr (.inr (.inl ⟨x, hc ▸ hx⟩)))) (fun c _ hx => k9 (.inr (.inr (.inr (.inl hx)))))
      (fun p hp => ⟨fun x => k9 (.inr (.inr (.inr (.inr ⟨p, hp, .inl x⟩)))), fun x => k9 (.inr (.inr (.inr (.inr ⟨p, hp, .inr x⟩))))⟩), ?_⟩
  exact (Step.keeps (tk := tk) hk).know hn (.inl (get_size _))

-- range, list
noncomputable def rangeP : List V → St → (V → St → Prop) → Prop := fun ds st Q => match ds with
  | [.int a] => Q (.rng a) st
  | _ => False
theorem prim_range : Prim B n (.type "range") rangeP := by
  intro Γ A env G st s ds vs Q hA I hv hq
  unfold rangeP at hq
  split at hq
  · rename_i a
    simp only [Vals] at hv
    obtain ⟨v, r, rfl, hv, rfl⟩ := hv
    simp only [Val] at hv
    obtain ⟨t, rfl⟩ := hv
    refine W.any (call_range_1 ?_)
    obtain ⟨I', S'⟩ := I.alloc (o := { cls := .type "range", data := .fields #[.int 0 s.toks, .int a t, .int 1 (s.toks + 1)] }) (tk := s.toks + 1 + 1) rfl
    exact ⟨_, st, _, hq, by simp only [Val]; exact ⟨_, _, _, _, _, rfl, know_at, rfl⟩, I', S'⟩
  · exact hq.elim
noncomputable def listP : List V → St → (V → St → Prop) → Prop := fun ds st Q => match ds with
  | [.byt b] => b.length ≤ 1000000 ∧ Q (.lst (b.map fun c => .int c.toNat)) st
  | _ => False
theorem ints_vals {b : List UInt8} {acc : List Value} (hl : acc.length = b.length) (h : ∀ (j : Nat) (v : Value), acc[j]? = some v → ∃ (c : UInt8) (u : Tok), b[j]? = some c ∧ v = .int (c.toNat : Int) u) : Vals G (b.map fun c => V.int c.toNat) acc := by
  induction b generalizing acc with
  | nil =>
    cases acc with
    | nil => simp [Vals]
    | cons => simp at hl
  | cons c r ih =>
    cases acc with
    | nil => simp at hl
    | cons v vs =>
      obtain ⟨c', u, e1, rfl⟩ := h 0 v rfl
      simp only [List.getElem?_cons_zero, Option.some.injEq] at e1
      subst e1
      simp only [List.map_cons, Vals]
      exact ⟨_, vs, rfl, by simp [Val], ih (by simpa using hl) fun j v hj => by simpa using h (j + 1) v (by simpa using hj)⟩
theorem prim_list : Prim B n (.type "list") listP := by
  intro Γ A env G st s ds vs Q hA I hv hq
  unfold listP at hq
  split at hq
  · rename_i b
    simp only [Vals] at hv
    obtain ⟨v, r, rfl, hv, rfl⟩ := hv
    simp only [Val] at hv
    obtain ⟨t, rfl⟩ := hv
    refine W.any (wpAny_mono (LB.call_ok hA.handled b.toArray t (by simpa using line_le hq.1)) (fun v s' hl => ?_) fun _ _ e => e)
    obtain ⟨rfl, h', tk, acc', c', rfl, hk, ho, hi⟩ := hl
    obtain ⟨I', S'⟩ := I.fresh (tk := tk) hk ho
    refine ⟨_, st, _, hq.2, ?_, I', S'⟩
    simp only [Val]
    refine ⟨_, _, acc', c', rfl, know_at, rfl, rfl, ints_vals (by simpa using hi.1) fun j v hj => ?_⟩
    obtain ⟨c, u, e1, e2⟩ := hi.2 j v (by simpa using hj)
    exact ⟨c, u, by simpa using e1, e2⟩
  · exact hq.elim

-- methods of octets
abbrev IsMeth (o : Expr) (name : Str) (q pos : Pos) (args : List Expr) : Prop := ∀ env, eval (.Call (.Attribute o name q) args [] pos) env = (do
      let ov ← eval o env
      standAt q.atName
      let (f, first) ← holding [ov] (getMethod ov name (do return (← importBound o env).getD true))
      callWith pos f first (backTo pos (starEach args env)) [])
noncomputable def V.isB : V → Prop
  | .byt _ => True
  | _ => False
noncomputable def meth (φ : List V → St → (V → St → Prop) → Prop) (f : Sm) (g : Ls) : Sm := fun st Q => f st fun o st₁ => o.isB ∧ g st₁ fun ds st₂ => φ (o :: ds) st₂ Q
theorem Ev.meth {o : Expr} {name : Str} {id : String} {q pos : Pos} {e : Expr} {es : List Expr} {φ : List V → St → (V → St → Prop) → Prop} {f : Sm} {g : Ls} (hsl : Slot "bytes" name id) (hty : typeOf (.builtin id) = pure (.type "method_descriptor")) (hp : Prim B n (.builtin id) φ)
    (hk : keeperOf (.builtin id) = pure .machine) (hf : Ev B n Γ o f) (hg : Evs B n Γ (e :: es) g)
    (hpl : (e :: es).all notStar = true := by rfl) (he : IsMeth o name q pos (e :: es) := by intro _; rfl) :
    Ev B n Γ (.Call (.Attribute o name q) (e :: es) [] pos) (Mine.meth φ f g) := by
  refine ⟨?_⟩
  intro A env G st s Q hA I hq
  refine C.MethodE ?_ (he env)
  refine W.mono (hf.1 A env G st s _ hA I hq) fun v s₁ ⟨d, st₁, G₁, h1, h2, h3, h4⟩ => ?_
  obtain ⟨hb, h1⟩ := h1
  cases d <;> first | exact False.elim hb | skip
  rename_i b
  have h2' := h2
  simp only [Val] at h2'
  obtain ⟨t, rfl⟩ := h2'
  refine W.any (getMethod_builtin (typeIs_bytes _ _ _) FB.plainAttrs_bytes hsl hty (fun a h => nomatch h) ?_)
  refine C.callWith_plain hk (plain_back (star_plain hpl env)) ?_
  have hargs := hg.1 pos A env G₁ st₁ s₁ _ hA h3 h1
  dsimp only at hargs
  rw [star_cons (by rw [List.all_cons, Bool.and_eq_true] at hpl; exact hpl.1)] at hargs ⊢
  refine C.evalArgs_plain (W.mono hargs fun vs s₂ h => ?_)
  obtain ⟨ds, st₂, G₂, k1, k2, I₂, S₂⟩ := h
  refine wp_from (h4.trans S₂) (hp Γ A env G₂ st₂ s₂ (.byt b :: ds) (.bytes b.toArray t :: vs) Q hA I₂ ?_ k1)
  simp only [Vals]
  exact ⟨_, vs, rfl, h2.mono S₂.le, k2⟩

noncomputable def findP : List V → St → (V → St → Prop) → Prop := fun ds st Q => match ds with
  | [.byt b, .byt c, .int i] => 0 ≤ i ∧ Q (.int (findV b.toArray c.toArray i)) st
  | _ => False
theorem prim_find : Prim B n (.builtin "bytes.find") findP := by
  intro Γ A env G st s ds vs Q hA I hv hq
  unfold findP at hq
  split at hq
  · simp only [Vals] at hv
    obtain ⟨v, r, rfl, hv, v', r', rfl, hv', v'', r'', rfl, hv'', rfl⟩ := hv
    simp only [Val] at hv hv' hv''
    obtain ⟨t, rfl⟩ := hv
    obtain ⟨t', rfl⟩ := hv'
    obtain ⟨t'', rfl⟩ := hv''
    exact W.any (find_ok hq.1 fun t' tk => outT hq.2 (by simp [Val]) I)
  · exact hq.elim
noncomputable def byts : List V → (List (List UInt8) → Prop) → Prop
  | [], Q => Q []
  | .byt b :: r, Q => byts r fun bs => Q (b :: bs)
  | _ :: _, _ => False
theorem byts_ok : ∀ {ds : List V} {vs : List Value} {Q : List (List UInt8) → Prop}, Vals G ds vs → byts ds Q → ∃ bs, BytesAre vs bs ∧ Q bs
  | [], vs, Q, hv, hq => by simp only [Vals] at hv; subst hv; exact ⟨[], .nil, hq⟩
  | d :: ds, vs, Q, hv, hq => by
    simp only [Vals] at hv
    obtain ⟨v, r, rfl, h1, h2⟩ := hv
    cases d <;> first | exact False.elim hq | skip
    rename_i b
    simp only [Val] at h1
    obtain ⟨t, rfl⟩ := h1
    obtain ⟨bs, e1, e2⟩ := byts_ok h2 hq
    exact ⟨b :: bs, .cons b t e1, e2⟩
noncomputable def joinP : List V → St → (V → St → Prop) → Prop := fun ds st Q => match ds with
  | [.byt sep, .lst xs] => byts xs fun bs => (bs.map (·.length)).sum + sep.length * bs.length ≤ 16777216 ∧ Q (.byt (joinL sep bs)) st
  | _ => False
theorem prim_join : Prim B n (.builtin "bytes.join") joinP := by
  intro Γ A env G st s ds vs Q hA I hv hq
  unfold joinP at hq
  split at hq
  · rename_i sep xs
    simp only [Vals] at hv
    obtain ⟨v, r, rfl, hv, v', r', rfl, hv', rfl⟩ := hv
    simp only [Val] at hv hv'
    obtain ⟨t, rfl⟩ := hv
    obtain ⟨a, o, ws, m, rfl, h1, h2, h3, h4⟩ := hv'
    obtain ⟨bs, e1, e2⟩ := byts_ok h4 hq
    exact W.any (join_ok ⟨o, I.known _ _ h1, h2, m, by simpa using h3⟩ e1 e2.1 fun t' tk => outT e2.2 (by simp [Val]) I)
  · exact hq.elim
theorem Ev.find {o : Expr} {q pos : Pos} {e : Expr} {es : List Expr} {f : Sm} {g : Ls} (hf : Ev B n Γ o f) (hg : Evs B n Γ (e :: es) g)
    (hpl : (e :: es).all notStar = true := by rfl) (he : IsMeth o (Str.ofString "find") q pos (e :: es) := by intro _; rfl) :
    Ev B n Γ (.Call (.Attribute o (Str.ofString "find") q) (e :: es) [] pos) (Mine.meth findP f g) := Ev.meth slot_bytes_find type_bytes_find prim_find rfl hf hg hpl he
theorem Ev.join {o : Expr} {q pos : Pos} {e : Expr} {es : List Expr} {f : Sm} {g : Ls} (hf : Ev B n Γ o f) (hg : Evs B n Γ (e :: es) g)
    (hpl : (e :: es).all notStar = true := by rfl) (he : IsMeth o (Str.ofString "join") q pos (e :: es) := by intro _; rfl) :
    Ev B n Γ (.Call (.Attribute o (Str.ofString "join") q) (e :: es) [] pos) (Mine.meth joinP f g) := Ev.meth slot_bytes_join type_bytes_join prim_join rfl hf hg hpl he
end
end

section
section
variable {B : Base} {n : Nat} {Γ Γc : Ctx} {env : Env} {G G' : Gh} {st : St} {s s' : Shared} {A : Around}

theorem kvs_cells (d : Deck) (c : Addr) (t u : Tok) : valueAt (d.kvs c t u) (Str.ofString "cells") = some (.ref c) := by with_unfolding_all rfl
theorem kvs_mixed (d : Deck) (c : Addr) (t u : Tok) : valueAt (d.kvs c t u) (Str.ofString "mixed") = some (.int d.mixed t) := by with_unfolding_all rfl
theorem kvs_turn (d : Deck) (c : Addr) (t u : Tok) : valueAt (d.kvs c t u) (Str.ofString "turn") = some (.int d.turn u) := by with_unfolding_all rfl
theorem kvs_set (d : Deck) (c : Addr) (t u v : Tok) (i : Int) : stored (d.kvs c t u) (Str.ofString "turn") (.int i v) = ({ d with turn := i } : Deck).kvs c t v := by with_unfolding_all rfl

theorem dk_item {i : Nat} {x : Str} {c : Bool} {d : Deck} {key : Str} {k : Nat} {px pk pos : Pos} {Q : Value → Shared → Prop} (sel : Addr → Tok → Tok → Value) (I : Inv B Γ env G st s) (hx : Γ.vars[i]? = some (some (x, c))) (hd : st.loc[i]? = some (some .deck)) (hdk : st.dk = some d)
    (hl : ∀ c t u, valueAt (d.kvs c t u) key = some (sel c t u))
    (h : ∀ p t u ws tk, G.dk = some p → s.heap.DictOf (strKind B.prog B.w) p.1 (d.kvs p.2 t u) → s.heap.PlainList p.2 ws → IntsAre ws.toList d.cells → Q (sel p.2 t u) { s with toks := tk }) :
    W (model B.prog B.w) A (eval (.Subscript (.Name x px) (.Constant (.str key) k pk) pos) env) Q s := by
  refine C.SubE (W.any (wpAny_Name (load_var I hx hd fun v hv => ?_) (ok_var I.ok hx).2))
  simp only [Val] at hv
  obtain ⟨p, hp, rfl⟩ := hv
  have hq := I.deck
  rw [hdk] at hq
  obtain ⟨p', t, u, ws, e1, e2, e3, e4⟩ := hq
  rw [hp] at e1; cases e1
  refine W.any (wpAny_Constant_str ?_)
  refine W.any (tail_ok (s := { s with toks := s.toks + 1 }) e2.typeIs slot_dict_getitem.lookup (wpAny_getItem_of (knd := strKind B.prog B.w) (by simp [PySem.strKind, Value.isStrOf]) (d := p.1) (f := valueAt (d.kvs p.2 t u)) e2.mapOf (hl _ _ _) ?_))
  exact h p t u ws _ hp e2 e3 e4

noncomputable def dkI (sel : Deck → Int) (i : Nat) : Sm := fun st Q => match st.loc[i]?, st.dk with
  | some (some .deck), some d => Q (.int (sel d)) st
  | _, _ => False
theorem Ev.mixed (i : Nat) {x : Str} {c : Bool} {k : Nat} {px pk pos : Pos} (hx : Γ.vars[i]? = some (some (x, c)) := by rfl) : Ev B n Γ (.Subscript (.Name x px) (.Constant (.str (Str.ofString "mixed")) k pk) pos) (dkI (·.mixed) i) := by
  refine ⟨?_⟩
  intro A env G st s Q hA I hf
  unfold dkI at hf
  split at hf
  · rename_i d e1 e2
    exact dk_item _ I hx e1 e2 (fun c t u => kvs_mixed d c t u) fun p t u ws tk _ _ _ _ => outT hf (by simp [Val]) I
  · exact hf.elim
theorem Ev.turn (i : Nat) {x : Str} {c : Bool} {k : Nat} {px pk pos : Pos} (hx : Γ.vars[i]? = some (some (x, c)) := by rfl) : Ev B n Γ (.Subscript (.Name x px) (.Constant (.str (Str.ofString "turn")) k pk) pos) (dkI (·.turn) i) := by
  refine ⟨?_⟩
  intro A env G st s Q hA I hf
  unfold dkI at hf
  split at hf
  · rename_i d e1 e2
    exact dk_item _ I hx e1 e2 (fun c t u => kvs_turn d c t u) fun p t u ws tk _ _ _ _ => outT hf (by simp [Val]) I
  · exact hf.elim

noncomputable def dkNE (i : Nat) : Ts := fun st Q => match st.loc[i]?, st.dk with
  | some (some .deck), some d => Q (!d.cells.isEmpty) st
  | _, _ => False
theorem Tst.dkNE (i : Nat) {x : Str} {c : Bool} {k : Nat} {px pk ps pl pos : Pos} (hx : Γ.vars[i]? = some (some (x, c)) := by rfl) :
    Tst B n Γ (.Compare (.Subscript (.Name x px) (.Constant (.str (Str.ofString "cells")) k pk) ps) [.NotEq] [.List [] pl] pos) (Mine.dkNE i) := by
  refine ⟨?_⟩
  intro A env G st s Q hA I hf
  unfold Mine.dkNE at hf
  split at hf
  · rename_i d e1 e2
    refine C.tCompare1 rfl (dk_item _ I hx e1 e2 (fun c t u => kvs_cells d c t u) fun p t u ws tk hp h1 h2 h3 => ?_)
    have I₀ := I.toks (tk := tk)
    refine W.mono ((Ev.lst (n := n) (pos := pl) Evs.nil).1 A env G st _ (fun d st' => st' = st ∧ d = .lst []) hA I₀ ⟨by simp [lim], rfl, rfl⟩) fun v s₁ ⟨d', st₁, G₁, k1, k2, k3, k4⟩ => ?_
    obtain ⟨rfl, rfl⟩ := k1
    simp only [Val, Vals] at k2
    obtain ⟨a', o', ws', m', rfl, hl', hc', hd', hv'⟩ := k2
    have e' : ws' = #[] := by cases ws'; simpa using hv'
    subst e'
    have hq := k3.deck
    rw [e2] at hq
    obtain ⟨p', t', u', ws₁, g1, g2, g3, g4⟩ := hq
    have : p' = p := by have := k4.le.dk p hp; rw [this] at g1; cases g1; rfl
    subst this
    have hu : A.units < cLine := by have := hA.units; unfold cLine; lia
    have IL : s₁.heap.IsList p'.2 ws₁ := g3.isList
    have IL' : s₁.heap.IsList a' #[] := ⟨o', k3.known _ _ hl', hc', m', hd'⟩
    have el := g4.length
    have S' := (Step.toks (Γ := Γ) (env := env) (G := G) (s := s) (tk := tk)).trans k4
    refine W.any (show wpAny _ A (richCompare .NotEq _ _) _ _ s₁ from ?_)
    by_cases hz : ws₁.size = 0
    · have : d.cells = [] := by
        rw [Array.length_toList, hz] at el
        exact List.length_eq_zero_iff.mp el.symm
      rw [this] at hf
      refine SeqAt.RcNeAt.lists (e := fun _ => true) IL IL' (by simpa using hz) hu (fun j h1 h2 => absurd h2 (by simp)) _ _ _ _ ?_
      rw [hz]
      exact W.any (wpAny_truthy_bool ⟨_, _, G₁, hf, rfl, k3, S'⟩)
    · have : d.cells.isEmpty = false := by
        cases hc : d.cells with
        | nil => rw [hc] at el; rw [Array.length_toList] at el; exact absurd el hz
        | cons a r => rfl
      rw [this] at hf
      exact SeqAt.RcNeAt.lists_lengths IL IL' (by simpa using hz) hu _ _ _ _ (W.any (wpAny_truthy_bool ⟨_, _, G₁, hf, rfl, k3, S'⟩))
  · exact hf.elim

theorem Inv.dk_set (I : Inv B Γ env G st s) {p : Addr × Addr} {d d' : Deck} (hp : G.dk = some p) (_ : st.dk = some d) {b : Addr} (hb : b = p.1 ∨ b = p.2) {h' : Heap} {tk : Nat}
    (hk : ∀ a o, a ≠ b → s.heap.get? a = some o → h'.get? a = some o) (hx : h'.get? b ≠ none) (hd : DeckInv B G h' (some d')) :
    Inv B Γ env G { st with dk := some d' } { s with heap := h', toks := tk } ∧ Step Γ env G s G { s with heap := h', toks := tk } := by
  have hK : G.K b = none := by rcases hb with rfl | rfl; exact (I.Kd p hp).1; exact (I.Kd p hp).2
  obtain ⟨d1, d2, d3, d4, d5⟩ := I.dL p hp
  have nL : env.locals ≠ b := by rcases hb with rfl | rfl; exact Ne.symm d1; exact Ne.symm d2
  have nC : ∀ x c, env.cells.lookup x = some c → c ≠ b := fun x c h => by rcases hb with rfl | rfl; exact (d4 x c h).1; exact (d4 x c h).2
  have nO : ∀ a, G.oa = some a → a ≠ b := fun a h => by rcases hb with rfl | rfl; exact (d5 a h).1; exact (d5 a h).2
  refine ⟨{
    kind := I.kind
    names := I.names
    globals := I.globals
    builtins := I.builtins
    base := I.base
    known := fun a o e => hk a o (fun x => by rw [x, hK] at e; cases e) (I.known a o e)
    KL := I.KL
    Kc := I.Kc
    Ko := I.Ko
    Kd := I.Kd
    ns := ?_
    ok := I.ok
    cells := I.cells
    cap := I.cap
    cL := I.cL
    oL := I.oL
    dL := I.dL
    own := I.own.mono (.refl _) I.own.none fun a o e1 e2 => hk a o (nO a e1) e2
    oex := fun a e => ?_
    deck := hd }, ?_⟩
  · obtain ⟨m, cm, h1, h2, h3⟩ := I.ns
    exact ⟨m, cm, h1.at' fun o e => hk _ o nL e, fun x c e => by
      obtain ⟨o, ho, hd⟩ := h2 x c e
      exact ⟨o, hk c o (nC x c e) ho, hd⟩, h3⟩
  · have h := I.oex a e
    cases hq : s.heap.get? a with
    | none => exact absurd hq h
    | some o =>
      show h'.get? a ≠ none
      rw [hk a o (nO a e) hq]
      exact fun x => nomatch x
  · exact (Step.refl G s).chg (.inr (.inr (.inr (.inr ⟨p, hp, hb⟩)))) hk hx

theorem DictOf_ex {prog : Program} {w : World} {h : Heap} {a : Addr} {kvs : List (Str × Value)} (x : h.DictOf (strKind prog w) a kvs) : h.get? a ≠ none := by
  obtain ⟨o, es, ep, ho, r⟩ := x
  rw [ho]; exact fun x => nomatch x

/-- deck['turn'] = e -/
noncomputable def dkSet (i : Nat) (f : Sm) : Sx := fun st Q => f st fun v st₁ => match v, st₁.loc[i]?, st₁.dk with
  | .int k, some (some .deck), some d => Q .next { st₁ with dk := some { d with turn := k } }
  | _, _, _ => False
theorem Ex.dkSet (i : Nat) {x : Str} {c : Bool} {k : Nat} {e : Expr} {px pk ps pos : Pos} {f : Sm} (h : Ev B n Γ e f) (hx : Γ.vars[i]? = some (some (x, c)) := by rfl)
    (hs : ∀ env, swapsWith e (some (.Subscript (.Name x px) (.Constant (.str (Str.ofString "turn")) k pk) ps)) pos.line env = pure false := by intro _; rfl) :
    Ex B n Γ (.Assign [.Subscript (.Name x px) (.Constant (.str (Str.ofString "turn")) k pk) ps] e pos) (Mine.dkSet i f) := by
  refine ⟨?_⟩
  intro A env G st s Q hA I hf
  show W _ _ (exec (.Assign [.Subscript (.Name x px) (.Constant (.str (Str.ofString "turn")) k pk) ps] e pos) env) _ _
  rw [exec_Assign_Subscript _ _ _ _ _ (hs env)]
  refine W.bind (W.standAt (W.bind (W.mono (h.1 A env G st s _ hA I hf) fun v s₁ ⟨dv, st₁, G₁, h1, h2, h3, h4⟩ => ?_)))
  dsimp only at h1
  split at h1
  · rename_i j d e1 e2
    simp only [Val] at h2
    obtain ⟨tv, rfl⟩ := h2
    rw [assign_Subscript]
    refine W.bind (W.bind (W.holding (W.any (wpAny_Name (load_var h3 hx e1 fun v hv => ?_) (ok_var h3.ok hx).2))))
    simp only [Val] at hv
    obtain ⟨p, hp, rfl⟩ := hv
    have hq := h3.deck
    rw [e2] at hq
    obtain ⟨p', t, u, ws, g1, g2, g3, g4⟩ := hq
    rw [hp] at g1; cases g1
    refine W.bind (W.holding (W.any (wpAny_Constant_str ?_)))
    refine W.bind (W.standAt (W.bind (W.holding (W.any (wpAny_setItem_pairs (s := { s₁ with toks := s₁.toks + 1 }) (knd := strKind B.prog B.w) (k := Str.ofString "turn") (by simp [PySem.strKind, Value.isStrOf]) g2 (fun h' hm hs' => ?_) (by rw [sizeLine_eq]; simp [Deck.kvs]))))))
    refine W.release (W.pure ?_)
    rw [kvs_set] at hm
    have hk := hs'.extBut
    obtain ⟨nn, g3⟩ := g3
    obtain ⟨I', S'⟩ := h3.dk_set (tk := s₁.toks + 1 + 1) (d' := { d with turn := j }) hp e2 (.inl rfl) hk (DictOf_ex hm) ⟨p, t, tv, ws, hp, hm, ⟨nn, hk _ _ (Ne.symm (h3.dL p hp).2.2.1) g3⟩, g4⟩
    exact ⟨.next, _, G₁, h1, rfl, I', h4.trans S'⟩
  · exact h1.elim
end
end

section
theorem ints_last : ∀ {vs : List Value} {ns : List Int}, IntsAre vs ns → ∀ {k : Int}, ns.getLast? = some k → ∃ t, vs[vs.length - 1]? = some (.int k t)
  | _, _, .nil, k, h => by simp at h
  | _, _, .cons n t .nil, k, h => by simp at h; subst h; exact ⟨t, rfl⟩
  | _, _, .cons n t (.cons m u x), k, h => by
    rw [List.getLast?_cons_cons] at h
    obtain ⟨t', e⟩ := ints_last (.cons m u x) h
    exact ⟨t', by simpa using e⟩
section
variable {B : Base} {n : Nat} {Γ Γc : Ctx} {env : Env} {G G' : Gh} {st : St} {s s' : Shared} {A : Around}

/-- deck['cells'].pop() -/
noncomputable def dkPop (i : Nat) : Sm := fun st Q => match st.loc[i]?, st.dk with
  | some (some .deck), some d => d.cells.length ≤ 1000000 ∧ match d.cells.getLast? with
    | some k => Q (.int k) { st with dk := some { d with cells := d.cells.dropLast } }
    | none => False
  | _, _ => False
theorem Ev.dkPop (i : Nat) {x : Str} {c : Bool} {k : Nat} {px pk ps q pos : Pos} (hx : Γ.vars[i]? = some (some (x, c)) := by rfl)
    (he : IsMeth (.Subscript (.Name x px) (.Constant (.str (Str.ofString "cells")) k pk) ps) (Str.ofString "pop") q pos [] := by intro _; rfl) :
    Ev B n Γ (.Call (.Attribute (.Subscript (.Name x px) (.Constant (.str (Str.ofString "cells")) k pk) ps) (Str.ofString "pop") q) [] [] pos) (Mine.dkPop i) := by
  refine ⟨?_⟩
  intro A env G st s Q hA I hf
  unfold Mine.dkPop at hf
  split at hf
  · rename_i d e1 e2
    obtain ⟨hz, hf⟩ := hf
    refine C.MethodE (dk_item _ I hx e1 e2 (fun c t u => kvs_cells d c t u) fun p t u ws tk hp h1 h2 h3 => ?_) (he env)
    obtain ⟨m, h2'⟩ := h2
    refine W.any (getMethod_builtin (s := { s with toks := tk }) ⟨_, h2', rfl⟩ PySem.F.plainAttrs_list PySem.F.slot_list_pop PySem.F.type_list_pop (fun a e => by cases e; exact ⟨_, h2', rfl⟩) ?_)
    refine C.callWith_plain rfl rfl (C.evalArgs_none ?_)
    cases hl : d.cells.getLast? with
    | none => rw [hl] at hf; exact hf.elim
    | some y =>
      rw [hl] at hf
      obtain ⟨ty, hy⟩ := ints_last h3 hl
      have el := h3.length
      refine W.any (PyProof.Rows.Copied.pop_at (s := { s with toks := tk }) h2' (y := .int y ty) (by simpa using hy) (fun h' hs' ho' => ?_) (by rw [Array.length_toList] at el; rw [el]; exact line_le hz))
      have hk := hs'.extBut
      have hdo : h'.DictOf (PySem.strKind B.prog B.w) p.1 (({ d with cells := d.cells.dropLast } : Deck).kvs p.2 t u) := by
        obtain ⟨o, es, ep, ho, r⟩ := h1
        exact ⟨o, es, ep, hk _ _ (I.dL p hp).2.2.1 ho, r⟩
      obtain ⟨I', S'⟩ := I.dk_set (tk := tk) (d' := { d with cells := d.cells.dropLast }) hp e2 (.inr rfl) hk (by rw [ho']; exact fun x => nomatch x) ⟨p, t, u, ws.pop, hp, hdo, ⟨_, ho'⟩, by
        rw [Array.toList_pop, List.dropLast_eq_take, List.dropLast_eq_take, el]
        exact h3.take _⟩
      exact ⟨.int y, _, G, hf, by simp [Val], I', S'⟩
  · exact hf.elim

/-- deck['cells'].append(e) -/
noncomputable def dkApp (i : Nat) (f : Sm) : Sx := fun st Q => match st.loc[i]?, st.dk with
  | some (some .deck), some _ => f st fun v st₁ => match v, st₁.dk with
    | .int k, some d => d.cells.length ≤ 1000000 ∧ Q .next { st₁ with dk := some { d with cells := d.cells ++ [k] } }
    | _, _ => False
  | _, _ => False
theorem Ex.dkApp (i : Nat) {x : Str} {c : Bool} {k : Nat} {e : Expr} {px pk ps q pos pos₂ : Pos} {f : Sm} (h : Ev B n Γ e f) (hx : Γ.vars[i]? = some (some (x, c)) := by rfl)
    (hs : ∀ env, swapsWith (.Call (.Attribute (.Subscript (.Name x px) (.Constant (.str (Str.ofString "cells")) k pk) ps) (Str.ofString "append") q) [e] [] pos) Option.none pos₂.line env = pure false := by intro _; rfl)
    (hst : ∀ env, starEach [e] env = [(false, eval e env)] := by intro _; rfl)
    (he : IsMeth (.Subscript (.Name x px) (.Constant (.str (Str.ofString "cells")) k pk) ps) (Str.ofString "append") q pos [e] := by intro _; rfl) :
    Ex B n Γ (.Expr (.Call (.Attribute (.Subscript (.Name x px) (.Constant (.str (Str.ofString "cells")) k pk) ps) (Str.ofString "append") q) [e] [] pos) pos₂) (Mine.dkApp i f) := by
  refine ⟨?_⟩
  intro A env G st s Q hA I hf
  unfold Mine.dkApp at hf
  split at hf
  · rename_i d₀ e1 e2
    refine C.ExprS (by unfold interactive; rw [I.kind]; rfl) (hs env) ?_
    refine C.MethodE (dk_item _ I hx e1 e2 (fun c t u => kvs_cells d₀ c t u) fun p t u ws tk hp h1 h2 h3 => ?_) (he env)
    obtain ⟨m, h2'⟩ := h2
    refine W.any (getMethod_builtin (s := { s with toks := tk }) ⟨_, h2', rfl⟩ PySem.F.plainAttrs_list slot_list_append PySem.F.type_list_append (fun a e => by cases e; exact ⟨_, h2', rfl⟩) ?_)
    refine app_arg h rfl hst hA (I.toks (tk := tk)) hf fun v s₁ dv st₁ G₁ k2 k3 k4 k1 => ?_
    split at k1
    · rename_i j d g2
      obtain ⟨hz, k1⟩ := k1
      simp only [Val] at k2
      obtain ⟨tv, rfl⟩ := k2
      have hq := k3.deck
      rw [g2] at hq
      obtain ⟨p', t', u', ws₁, g3, g4, g5, g6⟩ := hq
      have hp₁ := k4.le.dk p hp
      have : p' = p := by rw [hp₁] at g3; cases g3; rfl
      subst this
      have el := g6.length
      rw [Array.length_toList] at el
      refine W.any (wpAny_list_append_plain g5 (fun h' e5 e6 => ?_) (by rw [el]; exact line_le hz))
      have hk := e6.extBut
      have hdo : h'.DictOf (PySem.strKind B.prog B.w) p'.1 (({ d with cells := d.cells ++ [j] } : Deck).kvs p'.2 t' u') := by
        obtain ⟨o, es, ep, ho, r⟩ := g4
        exact ⟨o, es, ep, hk _ _ (k3.dL p' hp₁).2.2.1 ho, r⟩
      obtain ⟨I', S'⟩ := k3.dk_set (tk := s₁.toks) (d' := { d with cells := d.cells ++ [j] }) hp₁ g2 (.inr rfl) hk (by obtain ⟨_, ho'⟩ := e5; rw [ho']; exact fun x => nomatch x) ⟨p', t', u', ws₁.push (.int j tv), hp₁, hdo, e5, by
        rw [Array.toList_push]
        exact g6.append (.cons j tv .nil)⟩
      exact ⟨.next, _, G₁, k1, rfl, I', (Step.toks (tk := tk)).trans (k4.trans S')⟩
    · exact k1.elim
  · exact hf.elim

theorem Inv.dk_new (I : Inv B Γ env G st s) (hf : st.dk = none) {p : Addr × Addr} (hn : s.heap.get? p.1 = none ∧ s.heap.get? p.2 = none) (hne : p.1 ≠ p.2) {h' : Heap} {tk : Nat} (hk : ∀ b o, s.heap.get? b = some o → h'.get? b = some o) {d : Deck}
    (hd : DeckInv B { G with dk := some p } h' (some d)) :
    Inv B Γ env { G with dk := some p } { st with dk := some d } { s with heap := h', toks := tk } ∧ Step Γ env G s { G with dk := some p } { s with heap := h', toks := tk } := by
  have hG : G.dk = none := I.deck.none hf
  have used : ∀ b, (∃ o, s.heap.get? b = some o) → b ≠ p.1 ∧ b ≠ p.2 := fun b ⟨o, e⟩ => ⟨fun h => (by rw [h, hn.1] at e; cases e), fun h => (by rw [h, hn.2] at e; cases e)⟩
  obtain ⟨m, cm, h1, h2, h3⟩ := I.ns
  have exL : ∃ o, s.heap.get? env.locals = some o := by obtain ⟨o, _, _, e, _⟩ := h1; exact ⟨o, e⟩
  have exC : ∀ x c, env.cells.lookup x = some c → ∃ o, s.heap.get? c = some o := fun x c e => by obtain ⟨o, e, _⟩ := h2 x c e; exact ⟨o, e⟩
  have exO : ∀ a, G.oa = some a → ∃ o, s.heap.get? a = some o := fun a e => by
    cases hq : s.heap.get? a with
    | none => exact absurd hq (I.oex a e)
    | some o => exact ⟨o, rfl⟩
  have le : Gle G { G with dk := some p } := ⟨fun _ _ e => e, fun _ e => e, fun q e => by rw [hG] at e; cases e⟩
  have hK : ∀ b, s.heap.get? b = none → G.K b = none := fun b hb => by
    cases hq : G.K b with
    | none => rfl
    | some o => rw [I.known b o hq] at hb; cases hb
  refine ⟨{
    kind := I.kind
    names := I.names
    globals := I.globals
    builtins := I.builtins
    base := I.base
    known := fun b o e => hk b o (I.known b o e)
    KL := I.KL
    Kc := I.Kc
    Ko := I.Ko
    Kd := fun q e => by cases e; exact ⟨hK _ hn.1, hK _ hn.2⟩
    ns := ⟨m, cm, h1.at' fun o e => hk _ o e, fun x c e => ?_, fun i x c d a1 a2 => ?_⟩
    ok := I.ok
    cells := I.cells
    cap := I.cap
    cL := I.cL
    oL := I.oL
    dL := fun q e => by cases e; exact ⟨Ne.symm (used _ exL).1, Ne.symm (used _ exL).2, hne, fun x c h => used c (exC x c h), fun a h => used a (exO a h)⟩
    own := I.own.mono le I.own.none fun a o _ e => hk a o e
    oex := fun a e => ?_
    deck := hd }, ?_⟩
  · obtain ⟨o, ho, hd⟩ := h2 x c e
    exact ⟨o, hk c o ho, hd⟩
  · obtain ⟨v, b1, b2⟩ := h3 i x c d a1 a2
    exact ⟨v, b1.mono le, b2⟩
  · obtain ⟨o, ho⟩ := exO a e
    show h'.get? a ≠ none
    rw [hk a o ho]; exact fun x => nomatch x
  · have S := Step.keeps (Γ := Γ) (env := env) (G := G) (s := s) (tk := tk) hk
    exact { same := S.same, le := le, kn := fun b h => .inl h, on := fun b h => .inl h, dn := fun q h => by cases h; exact .inr hn, keep := fun b o e _ => hk b o e, ex := S.ex }

noncomputable def intsOf : List V → (List Int → Prop) → Prop
  | [], Q => Q []
  | .int i :: r, Q => intsOf r fun b => Q (i :: b)
  | _ :: _, _ => False
theorem intsOf_ok : ∀ {ds : List V} {vs : List Value} {Q : List Int → Prop}, Vals G ds vs → intsOf ds Q → ∃ ns, IntsAre vs ns ∧ Q ns
  | [], vs, Q, hv, hq => by simp only [Vals] at hv; subst hv; exact ⟨[], .nil, hq⟩
  | d :: ds, vs, Q, hv, hq => by
    simp only [Vals] at hv
    obtain ⟨v, r, rfl, h1, h2⟩ := hv
    cases d <;> first | exact False.elim hq | skip
    rename_i i
    simp only [Val] at h1
    obtain ⟨t, rfl⟩ := h1
    obtain ⟨ns, e1, e2⟩ := intsOf_ok h2 hq
    exact ⟨i :: ns, .cons i t e1, e2⟩

theorem C.pairs_nil {M : Model} {Q : List (Value × Value) → Shared → Prop} (h : Q [] s) : W M A (evalPairs []) Q s := W.pure h
theorem C.pairs_cons {M : Model} {k v : Sem Value} {rest : List (Sem Value × Sem Value)} {Q : List (Value × Value) → Shared → Prop}
    (h : W M A k (fun kv s₁ => W M A v (fun vv s₂ => W M A (evalPairs rest) (fun vs s₃ => Q ((kv, vv) :: vs) s₃) s₂) s₁) s) : W M A (evalPairs ((k, v) :: rest)) Q s := by
  rw [evalPairs]
  refine W.bind (W.mono h fun kv s₁ h₁ => ?_)
  refine W.bind (W.holding (W.mono h₁ fun vv s₂ h₂ => ?_))
  exact W.bind (W.holding (W.mono h₂ fun vs s₃ h₃ => W.pure h₃))

/-- return {'cells': cells[::-1], 'mixed': mixed, 'turn': 0} -/
noncomputable def retDk (i j : Nat) : Sx := fun st Q => match st.loc[i]?, st.loc[j]?, st.dk with
  | some (some (.lst xs)), some (some (.int m)), none => intsOf xs fun ns => xs.length ≤ 1000000 ∧ Q (.ret .deck) { st with dk := some ⟨ns.reverse, m, 0⟩ }
  | _, _, _ => False
theorem Ex.retDk (i j : Nat) {x y : Str} {c c' : Bool} {k k1 k2 k3 k0 : Nat} {p1 p2 p3 px py pq pn pp ps p0 pos pr' : Pos} (hx : Γ.vars[i]? = some (some (x, c)) := by rfl) (hy : Γ.vars[j]? = some (some (y, c')) := by rfl) :
    Ex B n Γ (.Return (some (.Dict [some (.Constant (.str (Str.ofString "cells")) k1 p1), some (.Constant (.str (Str.ofString "mixed")) k2 p2), some (.Constant (.str (Str.ofString "turn")) k3 p3)]
      [.Subscript (.Name x px) (.Slice Option.none Option.none (some (.UnaryOp .USub (.Constant (.int 1) k pn) pq)) pp) ps, .Name y py, .Constant (.int 0) k0 p0] pos)) pr') (Mine.retDk i j) := by
  refine ⟨?_⟩
  intro A env G st s Q hA I hf
  unfold Mine.retDk at hf
  split at hf
  · rename_i xs m e1 e2 e3
    refine C.RetS ?_
    rw [arm_eval_Dict]
    have hshape : ((evalEachOpt [some (.Constant (.str (Str.ofString "cells")) k1 p1), some (.Constant (.str (Str.ofString "mixed")) k2 p2), some (.Constant (.str (Str.ofString "turn")) k3 p3)] env).zip
        ((evalEach [.Subscript (.Name x px) (.Slice Option.none Option.none (some (.UnaryOp .USub (.Constant (.int 1) k pn) pq)) pp) ps, .Name y py, .Constant (.int 0) k0 p0] env).map fun v => do let x ← v; standAt pos; pure x)) =
      ([(eval (.Constant (.str (Str.ofString "cells")) k1 p1) env, do let x ← eval (.Subscript (.Name x px) (.Slice Option.none Option.none (some (.UnaryOp .USub (.Constant (.int 1) k pn) pq)) pp) ps) env; standAt pos; pure x),
        (eval (.Constant (.str (Str.ofString "mixed")) k2 p2) env, do let x ← eval (.Name y py) env; standAt pos; pure x),
        (eval (.Constant (.str (Str.ofString "turn")) k3 p3) env, do let x ← eval (.Constant (.int 0) k0 p0) env; standAt pos; pure x)] : List (Sem Value × Sem Value)).map fun p => (some p.1, p.2) := rfl
    rw [hshape, dictDisplay_pairs _ (by simp) (by simp)]
    refine W.bind (W.standAt (W.bind ?_))
    unfold subDict
    refine W.bind (W.any (wpAny_alloc ?_))
    refine W.bind (W.holding ?_)
    rw [if_pos (by simp)]
    have hk1 : ∀ b o, s.heap.get? b = some o → (s.heap.push { cls := .type "dict", data := .dict #[] }).get? b = some o := fun b o e => Heap.get?_push_of_some _ e
    generalize hH : s.heap.push { cls := .type "dict", data := .dict #[] } = H at hk1 ⊢
    have hP : H.get? s.heap.objs.size = some { cls := .type "dict", data := .dict #[] } := by rw [← hH]; exact Heap.get?_push_size _ rfl
    have I₁ := I.keeps (tk := s.toks) hk1
    refine W.bind (C.pairs_cons (W.any (wpAny_Constant_str (W.bind ?_))))
    have I₂ := I.keeps (tk := s.toks + 1) hk1
    refine C.SubE (W.any (wpAny_Name (load_var I₂ hx e1 fun v hv => ?_) (ok_var I.ok hx).2))
    simp only [Val] at hv
    obtain ⟨a, o, ws, mm, rfl, j1, j2, j3, j4⟩ := hv
    have hl : H.IsList a ws := ⟨o, hk1 _ _ (I.known _ _ j1), j2, mm, j3⟩
    refine C.SliceE ?_
    rw [evalPart_none]
    refine W.pure (W.pure ?_)
    show W _ _ (eval (.UnaryOp .USub (.Constant (.int 1) k pn) pq) env) _ _
    refine C.UnOp (W.any (wpAny_Constant_int (W.any (neg_int ?_))))
    have e := j4.length
    rw [Array.length_toList] at e
    obtain ⟨ns, e4, hz, hf⟩ := intsOf_ok j4 hf
    have hl' : (H.push { cls := .type "slice", data := .fields #[.none, .none, .int (-1) (s.toks + 1 + 1)] }).IsList a ws := hl.push _
    refine W.any (tail_ok (s := { s with heap := H.push { cls := .type "slice", data := .fields #[.none, .none, .int (-1) (s.toks + 1 + 1)] }, toks := s.toks + 1 + 1 + 1 }) hl'.typeIs list_getitem_lookup
      (wpAny_getItem_list_slice hl' (Heap.IsSliceOf.new ..) .none .none (.int (-1) _) (by simp) ?_ (by rw [e]; exact line_le hz)))
    dsimp only
    have hk2 : ∀ b o, H.get? b = some o → ((H.push { cls := .type "slice", data := .fields #[.none, .none, .int (-1) (s.toks + 1 + 1)] }).push { cls := .type "list", data := .seq (slicePick ws Option.none Option.none (some (-1))) }).get? b = some o :=
      fun b o e => Heap.get?_push_of_some _ (Heap.get?_push_of_some _ e)
    have hC : ((H.push { cls := .type "slice", data := .fields #[.none, .none, .int (-1) (s.toks + 1 + 1)] }).push { cls := .type "list", data := .seq (slicePick ws Option.none Option.none (some (-1))) }).PlainList
      (H.push { cls := .type "slice", data := .fields #[.none, .none, .int (-1) (s.toks + 1 + 1)] }).objs.size (slicePick ws Option.none Option.none (some (-1))) := ⟨_, Heap.get?_push_size _ rfl⟩
    have hCz : H.objs.size < (H.push { cls := .type "slice", data := .fields #[.none, .none, .int (-1) (s.toks + 1 + 1)] }).objs.size := by rw [Heap.size_push]; exact Nat.lt_succ_self _
    generalize (H.push { cls := .type "slice", data := .fields #[.none, .none, .int (-1) (s.toks + 1 + 1)] }).objs.size = CA at hC hCz ⊢
    generalize ((H.push { cls := .type "slice", data := .fields #[.none, .none, .int (-1) (s.toks + 1 + 1)] }).push { cls := .type "list", data := .seq (slicePick ws Option.none Option.none (some (-1))) }) = H' at hk2 hC ⊢
    have hHz : s.heap.objs.size < H.objs.size := Heap.lt_size hP
    have fC : s.heap.get? CA = none := by
      cases hq : s.heap.get? CA with
      | none => rfl
      | some o => exact absurd (Nat.lt_trans hHz hCz) (Nat.not_lt.mpr (Nat.le_of_lt (Heap.lt_size hq)))
    have nPC : s.heap.objs.size ≠ CA := Nat.ne_of_lt (Nat.lt_trans hHz hCz)
    refine W.bind (W.standAt (W.pure ?_))
    refine C.pairs_cons (W.any (wpAny_Constant_str (W.bind ?_)))
    have I₃ := I.keeps (h' := H') (tk := s.toks + 1 + 1 + 1 + 1) fun b o e => hk2 b o (hk1 b o e)
    refine W.any (wpAny_Name (load_var I₃ hy e2 fun v hv => ?_) (ok_var I.ok hy).2)
    simp only [Val] at hv
    obtain ⟨tm, rfl⟩ := hv
    refine W.bind (W.standAt (W.pure ?_))
    refine C.pairs_cons (W.any (wpAny_Constant_str (W.bind (W.any (wpAny_Constant_int (W.bind (W.standAt (W.pure ?_))))))))
    refine C.pairs_nil ?_
    refine W.holding ?_
    have hD : H'.DictOf (PySem.strKind B.prog B.w) s.heap.objs.size [] := ⟨_, #[], 0, hk2 _ _ hP, ⟨rfl, rfl, rfl⟩, rfl, fun _ h => by simp at h, .nil, by simp⟩
    refine W.bind (W.any (wpAny_storeAll (knd := PySem.strKind B.prog B.w) _ [(Str.ofString "cells", .ref CA), (Str.ofString "mixed", .int m tm), (Str.ofString "turn", .int 0 _)] [] _ _
      (by exact ⟨by simp [PySem.strKind, Value.isStrOf], rfl, by simp [PySem.strKind, Value.isStrOf], rfl, by simp [PySem.strKind, Value.isStrOf], rfl, trivial⟩) hD (by rw [sizeLine_eq]; simp) fun h' hm hs' => ?_))
    refine W.pure (W.pure ?_)
    have hnd : ([Str.ofString "cells", Str.ofString "mixed", Str.ofString "turn"] : List Str).Nodup := by decide
    have hnd' : ∀ a b c : Value, (([(Str.ofString "cells", a), (Str.ofString "mixed", b), (Str.ofString "turn", c)] : List (Str × Value)).map (·.1)).Nodup := fun _ _ _ => hnd
    rw [merged_nil_of_nodup _ (hnd' _ _ _)] at hm
    have hk := hs'.extBut
    have hkk : ∀ b o, s.heap.get? b = some o → h'.get? b = some o := fun b o e => hk b o (Nat.ne_of_lt (Heap.lt_size e)) (hk2 _ _ (hk1 _ _ e))
    obtain ⟨nn, hC⟩ := hC
    have er : (slicePick ws Option.none Option.none (some (-1))).toList = ws.toList.reverse := by rw [PySem.W.krv_pick]
    obtain ⟨I', S'⟩ := I.dk_new (p := (s.heap.objs.size, CA)) (d := ⟨ns.reverse, m, 0⟩) (tk := _) e3 ⟨get_size _, fC⟩ nPC hkk ⟨(s.heap.objs.size, CA), tm, _, _, rfl, hm, ⟨nn, hk _ _ (Ne.symm nPC) hC⟩, by rw [er]; exact e4.reverse⟩
    refine W.pure ?_
    exact ⟨.ret .deck, _, _, hf, ⟨_, rfl, by simp only [Val]; exact ⟨_, rfl, rfl⟩⟩, I', S'⟩
  · exact hf.elim
end
end

section
section
variable {B : Base} {n : Nat} {Γ Γc : Ctx} {env : Env} {G G' : Gh} {st : St} {s s' : Shared} {A : Around}

/-- the pairs of a display, keys of octets -/
abbrev Prs := St → (List V → St → Prop) → Prop
noncomputable def Dsp (B : Base) (n : Nat) (Γ : Ctx) (ks : List (List UInt8)) (keys : List (Option Expr)) (vals : List Expr) (f : Prs) : Prop :=
  ∀ (pos : Pos), ∃ prs : Env → List (Sem Value × Sem Value), (∀ env, (evalEachOpt keys env).zip ((evalEach vals env).map fun v => do let x ← v; standAt pos; pure x) = (prs env).map fun p => (some p.1, p.2)) ∧
    (∀ env, (prs env).length = ks.length) ∧
    Sat B n Γ (fun G ds (vs : List (Value × Value)) => Vals G ds (vs.map (·.2)) ∧ ds.length = ks.length ∧ ∀ (prog : Program) (w : World), Carries (bytesKind prog w) vs (ks.zip (vs.map (·.2)))) (fun env => evalPairs (prs env)) f
noncomputable def dNil : Prs := fun st Q => Q [] st
noncomputable def dCons (f : Sm) (g : Prs) : Prs := fun st Q => f st fun d st₁ => g st₁ fun ds st₂ => Q (d :: ds) st₂
theorem Dsp.nil : Dsp B n Γ [] [] [] dNil := by
  intro pos
  refine ⟨fun _ => [], fun _ => rfl, fun _ => rfl, ?_⟩
  intro A env G st s Q hA I hf
  exact C.pairs_nil ⟨[], st, G, hf, ⟨by simp [Vals], rfl, fun _ _ => trivial⟩, I, .refl G s⟩
theorem Dsp.cons {b : List UInt8} {bs : List (List UInt8)} {k : Nat} {p : Pos} {keys : List (Option Expr)} {e : Expr} {es : List Expr} {f : Sm} {g : Prs} (he : Ev B n Γ e f) (hs : Dsp B n Γ bs keys es g)
    (hk : ∀ env, evalEachOpt (some (.Constant (.bytes b) k p) :: keys) env = some (eval (.Constant (.bytes b) k p) env) :: evalEachOpt keys env := by intro _; rfl) (hv : ∀ env, evalEach (e :: es) env = eval e env :: evalEach es env := by intro _; rfl) :
    Dsp B n Γ (b :: bs) (some (.Constant (.bytes b) k p) :: keys) (e :: es) (dCons f g) := by
  intro pos
  obtain ⟨prs, h1, h2, h3⟩ := hs pos
  refine ⟨fun env => (eval (.Constant (.bytes b) k p) env, do let x ← eval e env; standAt pos; pure x) :: prs env, fun env => ?_, fun env => by simp [h2], ?_⟩
  · rw [hk, hv]
    simp only [List.map_cons, List.zip_cons_cons]
    rw [h1]
  · intro A env G st s Q hA I hf
    refine C.pairs_cons (W.any (Constant_bytes ?_))
    refine W.bind (W.mono (he.1 A env G st _ _ hA (I.toks (tk := s.toks + 1)) hf) fun v s₁ ⟨d, st₁, G₁, k1, k2, k3, k4⟩ => ?_)
    refine W.bind (W.standAt (W.pure ?_))
    refine W.mono (h3 A env G₁ st₁ s₁ _ hA k3 k1) fun vs s₂ ⟨ds, st₂, G₂, j1, j2, j3, j4⟩ => ?_
    refine ⟨d :: ds, st₂, G₂, j1, ⟨?_, ?_, fun prog w => ?_⟩, j3, (Step.toks (tk := s.toks + 1)).trans (k4.trans j4)⟩
    · dsimp only [List.map_cons, Vals]
      exact ⟨v, _, rfl, k2.mono j4.le, j2.1⟩
    · simp [j2.2.1]
    · exact ⟨bytesKind_is prog w b _, rfl, j2.2.2 prog w⟩

noncomputable def seek (w : List UInt8) : List (List UInt8) → List V → V
  | k :: ks, d :: ds => if k = w then d else seek w ks ds
  | _, _ => .none
theorem seek_ok {w : List UInt8} : ∀ {ks : List (List UInt8)} {ds : List V} {vs : List Value}, Vals G ds vs → Val G (seek w ks ds) ((valueAt (ks.zip vs) w).getD .none)
  | [], ds, vs, _ => by simp [seek, Val, valueAt]
  | k :: ks, [], vs, h => by dsimp only [Vals] at h; subst h; simp [seek, Val, valueAt]
  | k :: ks, d :: ds, vs, h => by
    dsimp only [Vals] at h
    obtain ⟨v, r, rfl, h1, h2⟩ := h
    unfold seek
    by_cases hk : k = w
    · rw [if_pos hk]; simpa [valueAt, hk] using h1
    · rw [if_neg hk]
      have := seek_ok (w := w) (ks := ks) h2
      simpa [valueAt, hk] using this

/-- {..}.get(w) -/
noncomputable def dget (ks : List (List UInt8)) (f : Prs) (g : Sm) : Sm := fun st Q => f st fun ds st₁ => g st₁ fun d st₂ => match d with
  | .byt w => Q (seek w ks ds) st₂
  | _ => False
theorem Ev.dget {ks : List (List UInt8)} {keys : List (Option Expr)} {vals : List Expr} {e : Expr} {pd q pos : Pos} {f : Prs} {g : Sm} (O : B.Ok) (hf : Dsp B n Γ ks keys vals f) (hg : Ev B n Γ e g) (h0 : ks ≠ [] := by decide) (hl : ks.length ≤ 15 := by decide) (hn : ks.Nodup := by decide)
    (hst : ∀ env, starEach [e] env = [(false, eval e env)] := by intro _; rfl)
    (he : IsMeth (.Dict keys vals pd) (Str.ofString "get") q pos [e] := by intro _; rfl) :
    Ev B n Γ (.Call (.Attribute (.Dict keys vals pd) (Str.ofString "get") q) [e] [] pos) (Mine.dget ks f g) := by
  refine ⟨?_⟩
  intro A env G st s Q hA I hq
  refine C.MethodE ?_ (he env)
  obtain ⟨prs, h1, h2, h3⟩ := hf pd
  rw [arm_eval_Dict, h1, dictDisplay_pairs _ (fun h => h0 (by have := h2 env; rw [h] at this; exact List.length_eq_zero_iff.mp this.symm)) (by rw [h2]; omega)]
  refine W.bind (W.standAt (W.bind ?_))
  unfold subDict
  refine W.bind (W.any (wpAny_alloc ?_))
  refine W.bind (W.holding ?_)
  rw [if_pos (by rw [h2]; exact hl)]
  have hk1 : ∀ b o, s.heap.get? b = some o → (s.heap.push { cls := .type "dict", data := .dict #[] }).get? b = some o := fun b o e => Heap.get?_push_of_some _ e
  have hP : (s.heap.push { cls := .type "dict", data := .dict #[] }).get? s.heap.objs.size = some { cls := .type "dict", data := .dict #[] } := Heap.get?_push_size _ rfl
  have I₁ := I.keeps (tk := s.toks) hk1
  have S₁ : Step Γ env G s G _ := Step.keeps (tk := s.toks) hk1
  refine W.bind (W.mono (h3 A env G st _ _ hA I₁ hq) fun vs s₁ ⟨ds, st₁, G₁, k1, ⟨k2, k2', k2''⟩, k3, k4⟩ => ?_)
  have hu : ¬ Used env G s.heap.objs.size := get_not_used I
  have hP₁ := k4.kept hu hP
  have hu₁ := k4.unused hu (by show (s.heap.push _).get? _ ≠ _; rw [hP]; exact fun x => nomatch x)
  have hD : s₁.heap.DictOf (bytesKind B.prog B.w) s.heap.objs.size [] := ⟨_, #[], 0, hP₁, ⟨rfl, rfl, rfl⟩, rfl, fun _ h => by simp at h, .nil, by simp⟩
  have hlen : (ks.zip (vs.map (·.2))).length ≤ 15 := by rw [List.length_zip]; omega
  have hkeys : (ks.zip (vs.map (·.2))).map (·.1) = ks := List.map_fst_zip (by have := k2.length; rw [this, k2']; exact Nat.le_refl _)
  refine W.holding (W.bind (W.any (wpAny_storeAll (knd := bytesKind B.prog B.w) vs (ks.zip (vs.map (·.2))) [] s₁ _ (k2'' _ _) hD (by rw [sizeLine_eq]; dsimp only [List.length_nil]; omega) fun h' hm hs' => ?_)))
  refine W.pure (W.pure (W.pure ?_))
  rw [merged_nil_of_nodup _ (by rw [hkeys]; exact hn)] at hm
  have I₂ := k3.off (tk := s₁.toks + vs.length) hu₁ hs'.extBut
  have S₂ := (S₁.trans k4).off (tk := s₁.toks + vs.length) (get_size _) hs'.extBut
  refine W.any (getMethod_builtin (s := { s₁ with heap := h', toks := s₁.toks + vs.length }) hm.typeIs PySem.F.plainAttrs_dict PySem.F.slot_dict_get PySem.F.type_dict_get hm.mapOf.noDict ?_)
  refine C.callWith_plain rfl (plain_back (by rw [hst]; rfl)) ?_
  rw [hst]
  refine C.evalArgs_plain ?_
  show W _ _ (spliced [(false, eval e env)]) _ _
  refine C.spliced_cons (W.mono (hg.1 A env G₁ st₁ _ _ hA I₂ k1) fun v s₃ ⟨d, st₃, G₃, j1, j2, j3, j4⟩ => ?_)
  refine C.spliced_nil ?_
  cases d <;> first | exact False.elim j1 | skip
  rename_i wd
  dsimp only [Val] at j2
  obtain ⟨t, rfl⟩ := j2
  obtain ⟨o, es, ep, ho, r⟩ := hm
  have hm₃ : s₃.heap.DictOf (bytesKind B.prog B.w) s.heap.objs.size (ks.zip (vs.map (·.2))) := ⟨o, es, ep, j4.kept hu₁ ho, r⟩
  have lo : (s.heap.objs.size == sysModules) = false := by
    have := modules_low (O.nolimit.keeps fun b o e => I.known b o (I.base b o e))
    exact beq_eq_false_iff_ne.mpr (Nat.ne_of_gt this)
  refine W.any (call_meetsIn PySem.F.slot_dict_get hm₃.typeIs PySem.F.entry_dict_get (PySem.F.args_dict_get_2 _ _) (meets_dict_get (bytesKind B.prog B.w) _ (bytesKind_is _ _ wd t) lo) ⟨_, hm₃.mapOf, ?_⟩)
  exact ⟨_, st₃, G₃, j1, seek_ok (k2.mono j4.le), j3.toks, (S₂.trans j4).trans .toks⟩
end
end

section
set_option maxRecDepth 100000
set_option maxHeartbeats 4000000
noncomputable def fdAt (i : Nat) : Str × Arguments × List Stmt × Scope := match PySem.Challenge.pw_pq1184_01.main.body[i]? with
  | some (.FunctionDef n a b _ _ _ s _ _ _) => (n, a, b, s)
  | _ => default
noncomputable def bodyOf (i : Nat) : List Stmt := (fdAt i).2.2.1
noncomputable def paramsOf (i : Nat) : Arguments := (fdAt i).2.1
noncomputable def scopeOf (i : Nat) : Scope := (fdAt i).2.2.2
noncomputable def HasFn (B : Base) (i : Nat) (x : Str) : Prop := ∃ a o pm code doc, B.mg x = some (.ref a) ∧ B.H.get? a = some o ∧ o.data = .func (PySem.Calls.docDef x (paramsOf i) (bodyOf i) (scopeOf i) pm code doc) ∧ B.H.CodeRec code x

noncomputable def special : List UInt8 := [32, 9, 124, 38, 59, 60, 62, 40, 41, 36, 96, 34, 39, 42, 63, 91, 35, 61, 37, 92, 126, 33, 123, 125]
structure Glob (B : Base) : Prop where
  ok : B.Ok
  len : Blt B "len" (.builtin "len")
  abs : Blt B "abs" (.builtin "abs")
  max : Blt B "max" (.builtin "max")
  min : Blt B "min" (.builtin "min")
  int : Blt B "int" (.type "int")
  bytes : Blt B "bytes" (.type "bytes")
  ba : Blt B "bytearray" (.type "bytearray")
  list : Blt B "list" (.type "list")
  range : Blt B "range" (.type "range")
  SIGN : Cst B "SIGN" (.int 35)
  BACKSLASH : Cst B "BACKSLASH" (.int 92)
  DAY : Cst B "DAY" (.int 86400)
  MOST_FIGURES : Cst B "MOST_FIGURES" (.int 1000)
  MOST_WIDE : Cst B "MOST_WIDE" (.int 10000)
  MOST_LONG : Cst B "MOST_LONG" (.int 100000)
  SPECIAL : Cst B "SPECIAL" (.byt special)

structure FnOk (Γ : Ctx) (i : Nat) (x : Str) (ps : List (Str × Bool)) : Prop where
  bind : ∀ pm code doc vs, vs.length = ps.length → bindArgs (PySem.Calls.docDef x (paramsOf i) (bodyOf i) (scopeOf i) pm code doc) ⟨vs, []⟩ = pure ((ps.map (·.1)).zip vs)
  ok : Γ.ok = true
  names : (scopeOf i).names = Γ.names
  fn : Γ.fn = true
  vars : Γ.vars.take ps.length = ps.map some
  co : (scopeOf i).isCoroutine = false
  gen : (scopeOf i).isGenerator = false
  kind : (scopeOf i).kind = .function

theorem fnN_of {B : Base} {n i : Nat} {x : Str} {Γ : Ctx} {ps : List (Str × Bool)} {sem : Sx} {φ : Spec} (O : B.Ok) (h : HasFn B i x) (K : FnOk Γ i x ps) (hb : ExL B n Γ (bodyOf i) sem) (hφ : ∀ ds dk Q, φ ds dk Q → entry Γ ps.length sem ds dk Q) : FnN B (n + 1) x φ := by
  obtain ⟨a, o, pm, code, doc, h1, h2, h3, h4⟩ := h
  refine ⟨a, o, _, h1, h2, h3, ?_⟩
  have := Fn.of (Γ := Γ) (ps := ps) (sem := sem) (n := n) O.nolimit h2 h3 h4 rfl rfl rfl rfl (K.bind pm code doc) K.ok K.names K.fn ⟨K.vars⟩ hb K.co K.gen K.kind
  exact fun A G s ds vs dk Q hA C hv hq => this A G s ds vs dk Q hA C hv (hφ ds dk Q hq)

theorem len1 {α : Type} {vs : List α} (h : vs.length = 1) : ∃ a, vs = [a] := by
  match vs, h with
  | [a], _ => exact ⟨a, rfl⟩
theorem len2 {α : Type} {vs : List α} (h : vs.length = 2) : ∃ a b, vs = [a, b] := by
  match vs, h with
  | [a, b], _ => exact ⟨a, b, rfl⟩
theorem len3 {α : Type} {vs : List α} (h : vs.length = 3) : ∃ a b c, vs = [a, b, c] := by
  match vs, h with
  | [a, b, c], _ => exact ⟨a, b, c, rfl⟩
end

section
noncomputable def Γ_decimal_octets : Ctx := ⟨[("number", .local), ("rest", .local), ("found", .local), ("bytes", .globalImplicit)], [some ("number", false), some ("rest", false), some ("found", false)], ["bytes"], true⟩
noncomputable def b_decimal_octets_1 : Sx := (seq (appL 2 (bin .Add (cst (.int 48)) (bin .Mod (rd 1) (cst (.int 10))))) (seq (put 1 (bin .FloorDiv (rd 1) (cst (.int 10)))) skip))
noncomputable def w_decimal_octets_1 : Sx := while' (cmpT .Gt (rd 1) (cst (.int 0))) (b_decimal_octets_1)
noncomputable def t_decimal_octets_5 : Sx := seq (ret' (callP bytesP (cons' (rev (rdO 2)) nil'))) skip
noncomputable def t_decimal_octets_4 : Sx := seq (iff' (cmpT .Lt (rd 0) (cst (.int 0))) (seq (appL 2 (cst (.int 45))) skip) skip) (t_decimal_octets_5)
noncomputable def t_decimal_octets_3 : Sx := seq (w_decimal_octets_1) (t_decimal_octets_4)
noncomputable def t_decimal_octets_2 : Sx := seq (put 1 (bin .FloorDiv (rd 1) (cst (.int 10)))) (t_decimal_octets_3)
noncomputable def t_decimal_octets_1 : Sx := seq (put 2 (ownL (cons' (bin .Add (cst (.int 48)) (bin .Mod (rd 1) (cst (.int 10)))) nil'))) (t_decimal_octets_2)
noncomputable def t_decimal_octets_0 : Sx := seq (put 1 (ite' (cmpT .GtE (rd 0) (cst (.int 0))) (rd 0) (neg (rd 0)))) (t_decimal_octets_1)
noncomputable def sem_decimal_octets : Sx := (t_decimal_octets_0)
noncomputable def Γ_number_of : Ctx := ⟨[("octets", .local), ("number", .local), ("many", .local), ("octet", .local), ("len", .globalImplicit), ("MOST_FIGURES", .globalImplicit)], [some ("octets", false), some ("number", false), some ("many", false), some ("octet", false)], ["len", "MOST_FIGURES"], true⟩
noncomputable def b_number_of_1 : Sx := (seq (iff' (notT (cmp2T .LtE .LtE (cst (.int 48)) (rd 3) (cst (.int 57)))) (seq (ret' (cst .none)) skip) skip) (seq (iff' (orT (cmpT .Gt (rd 2) (cst (.int 0))) (orT (cmpT .NotEq (rd 3) (cst (.int 48))) (tt false))) (seq (put 2 (bin .Add (rd 2) (cst (.int 1)))) skip) skip) (seq (iff' (cmpT .LtE (rd 2) (cst (.int 1000))) (seq (put 1 (bin .Sub (bin .Add (bin .Mult (cst (.int 10)) (rd 1)) (rd 3)) (cst (.int 48)))) skip) skip) skip)))
noncomputable def w_number_of_1 : Sx := for' (rd 0) (tN 3) (b_number_of_1)
noncomputable def t_number_of_3 : Sx := seq (ret' (ite' (cmpT .LtE (rd 2) (cst (.int 1000))) (rd 1) (bin .Sub (bin .Pow (cst (.int 10)) (cst (.int 1000))) (cst (.int 1))))) skip
noncomputable def t_number_of_2 : Sx := seq (w_number_of_1) (t_number_of_3)
noncomputable def t_number_of_1 : Sx := seq (putT (tup' (cons' (cst (.int 0)) (cons' (cst (.int 0)) nil'))) (tT 2 (tCons (tN 1) (tCons (tN 2) tNil)))) (t_number_of_2)
noncomputable def t_number_of_0 : Sx := seq (iff' (cmpT .Eq (callP lenP (cons' (rd 0) nil')) (cst (.int 0))) (seq (ret' (cst .none)) skip) skip) (t_number_of_1)
noncomputable def sem_number_of : Sx := (t_number_of_0)
noncomputable def Γ_sign_lead : Ctx := ⟨[("octet", .local)], [some ("octet", false)], [], true⟩
noncomputable def t_sign_lead_3 : Sx := seq (ret' (cst .none)) skip
noncomputable def t_sign_lead_2 : Sx := seq (iff' (cmp2T .LtE .LtE (cst (.int 240)) (rd 0) (cst (.int 244))) (seq (ret' (tup' (cons' (cst (.int 3)) (cons' (bin .BitAnd (rd 0) (cst (.int 7))) (cons' (ite' (cmpT .Eq (rd 0) (cst (.int 240))) (cst (.int 144)) (cst (.int 128))) (cons' (ite' (cmpT .Eq (rd 0) (cst (.int 244))) (cst (.int 143)) (cst (.int 191))) nil')))))) skip) skip) (t_sign_lead_3)
noncomputable def t_sign_lead_1 : Sx := seq (iff' (cmp2T .LtE .LtE (cst (.int 224)) (rd 0) (cst (.int 239))) (seq (ret' (tup' (cons' (cst (.int 2)) (cons' (bin .BitAnd (rd 0) (cst (.int 15))) (cons' (ite' (cmpT .Eq (rd 0) (cst (.int 224))) (cst (.int 160)) (cst (.int 128))) (cons' (ite' (cmpT .Eq (rd 0) (cst (.int 237))) (cst (.int 159)) (cst (.int 191))) nil')))))) skip) skip) (t_sign_lead_2)
noncomputable def t_sign_lead_0 : Sx := seq (iff' (cmp2T .LtE .LtE (cst (.int 194)) (rd 0) (cst (.int 223))) (seq (ret' (tup' (cons' (cst (.int 1)) (cons' (bin .BitAnd (rd 0) (cst (.int 31))) (cons' (cst (.int 128)) (cons' (cst (.int 191)) nil')))))) skip) skip) (t_sign_lead_1)
noncomputable def sem_sign_lead : Sx := (t_sign_lead_0)
noncomputable def Γ_format_truth : Ctx := ⟨[("truth", .local)], [some ("truth", false)], [], true⟩
noncomputable def t_format_truth_0 : Sx := seq (ret' (ite' (vB (rd 0)) (cst (.byt [49])) (cst (.byt [48])))) skip
noncomputable def sem_format_truth : Sx := (t_format_truth_0)
noncomputable def Γ_format_compared : Ctx := ⟨[("word", .local), ("near", .local), ("far", .local)], [some ("word", false), some ("near", false), some ("far", false)], [], true⟩
noncomputable def t_format_compared_4 : Sx := seq (ret' (ite' (cmpT .Eq (rd 0) (cst (.byt [60, 61]))) (cmp .LtE (rd 1) (rd 2)) (cmp .GtE (rd 1) (rd 2)))) skip
noncomputable def t_format_compared_3 : Sx := seq (iff' (cmpT .Eq (rd 0) (cst (.byt [62]))) (seq (ret' (cmp .Gt (rd 1) (rd 2))) skip) skip) (t_format_compared_4)
noncomputable def t_format_compared_2 : Sx := seq (iff' (cmpT .Eq (rd 0) (cst (.byt [60]))) (seq (ret' (cmp .Lt (rd 1) (rd 2))) skip) skip) (t_format_compared_3)
noncomputable def t_format_compared_1 : Sx := seq (iff' (cmpT .Eq (rd 0) (cst (.byt [33, 61]))) (seq (ret' (cmp .NotEq (rd 1) (rd 2))) skip) skip) (t_format_compared_2)
noncomputable def t_format_compared_0 : Sx := seq (iff' (cmpT .Eq (rd 0) (cst (.byt [61, 61]))) (seq (ret' (cmp .Eq (rd 1) (rd 2))) skip) skip) (t_format_compared_1)
noncomputable def sem_format_compared : Sx := (t_format_compared_0)
noncomputable def Γ_format_quoted : Ctx := ⟨[("octets", .local), ("is_for_formats", .local), ("found", .local), ("octet", .local), ("bytearray", .globalImplicit), ("SIGN", .globalImplicit), ("SPECIAL", .globalImplicit), ("BACKSLASH", .globalImplicit), ("bytes", .globalImplicit)], [some ("octets", false), some ("is_for_formats", false), some ("found", false), some ("octet", false)], ["bytearray", "SIGN", "SPECIAL", "BACKSLASH", "bytes"], true⟩
noncomputable def b_format_quoted_1 : Sx := (seq (iff' (andT (vB (rd 1)) (andT (cmpT .Eq (rd 3) (cst (.int 35))) (tt true))) (seq (appB 2 (cst (.int 35))) skip) (seq (iff' (andT (notT (vB (rd 1))) (andT (cmpT .In (rd 3) (cst (.byt special))) (tt true))) (seq (appB 2 (cst (.int 92))) skip) skip) skip)) (seq (appB 2 (rd 3)) skip))
noncomputable def w_format_quoted_1 : Sx := for' (rd 0) (tN 3) (b_format_quoted_1)
noncomputable def t_format_quoted_2 : Sx := seq (ret' (callP bytesO (cons' (rdO 2) nil'))) skip
noncomputable def t_format_quoted_1 : Sx := seq (w_format_quoted_1) (t_format_quoted_2)
noncomputable def t_format_quoted_0 : Sx := seq (put 2 (baP [])) (t_format_quoted_1)
noncomputable def sem_format_quoted : Sx := (t_format_quoted_0)
noncomputable def Γ_format_two : Ctx := ⟨[("number", .local), ("decimal_octets", .globalImplicit)], [some ("number", false)], ["decimal_octets"], true⟩
noncomputable def t_format_two_0 (φ_decimal_octets : Spec) : Sx := seq (ret' (bin .Add (callF φ_decimal_octets (cons' (bin .FloorDiv (rd 0) (cst (.int 10))) nil')) (callF φ_decimal_octets (cons' (bin .Mod (rd 0) (cst (.int 10))) nil')))) skip
noncomputable def sem_format_two (φ_decimal_octets : Spec) : Sx := (t_format_two_0 φ_decimal_octets)
noncomputable def Γ_format_time : Ctx := ⟨[("octets", .local), ("seconds", .local), ("days", .local), ("rest", .local), ("shifted", .local), ("within", .local), ("year", .local), ("day", .local), ("month", .local), ("number", .local), ("date", .local), ("clock", .local), ("number_of", .globalImplicit), ("DAY", .globalImplicit), ("decimal_octets", .globalImplicit), ("format_two", .globalImplicit)], [some ("octets", false), some ("seconds", false), some ("days", false), some ("rest", false), some ("shifted", false), some ("within", false), some ("year", false), some ("day", false), some ("month", false), some ("number", false), some ("date", false), some ("clock", false)], ["number_of", "DAY", "decimal_octets", "format_two"], true⟩
noncomputable def t_format_time_12 (φ_number_of φ_decimal_octets φ_format_two : Spec) : Sx := seq (ret' (bin .Add (bin .Add (rd 10) (cst (.byt [32]))) (meth joinP (cst (.byt [58])) (cons' (rd 11) nil')))) skip
noncomputable def t_format_time_11 (φ_number_of φ_decimal_octets φ_format_two : Spec) : Sx := seq (put 11 (lst' (cons' (callF φ_format_two (cons' (bin .FloorDiv (rd 3) (cst (.int 3600))) nil')) (cons' (callF φ_format_two (cons' (bin .Mod (bin .FloorDiv (rd 3) (cst (.int 60))) (cst (.int 60))) nil')) (cons' (callF φ_format_two (cons' (bin .Mod (rd 3) (cst (.int 60))) nil')) nil'))))) (t_format_time_12 φ_number_of φ_decimal_octets φ_format_two)
noncomputable def t_format_time_10 (φ_number_of φ_decimal_octets φ_format_two : Spec) : Sx := seq (put 10 (bin .Add (bin .Add (bin .Add (bin .Add (callF φ_decimal_octets (cons' (rd 6) nil')) (cst (.byt [45]))) (callF φ_format_two (cons' (rd 9) nil'))) (cst (.byt [45]))) (callF φ_format_two (cons' (bin .Add (bin .Sub (rd 7) (bin .FloorDiv (bin .Add (bin .Mult (cst (.int 153)) (rd 8)) (cst (.int 2))) (cst (.int 5)))) (cst (.int 1))) nil')))) (t_format_time_11 φ_number_of φ_decimal_octets φ_format_two)
noncomputable def t_format_time_9 (φ_number_of φ_decimal_octets φ_format_two : Spec) : Sx := seq (put 6 (bin .Add (bin .Add (rd 6) (bin .Mult (bin .FloorDiv (rd 4) (cst (.int 146097))) (cst (.int 400)))) (ite' (cmpT .LtE (rd 9) (cst (.int 2))) (cst (.int 1)) (cst (.int 0))))) (t_format_time_10 φ_number_of φ_decimal_octets φ_format_two)
noncomputable def t_format_time_8 (φ_number_of φ_decimal_octets φ_format_two : Spec) : Sx := seq (put 9 (ite' (cmpT .Lt (rd 8) (cst (.int 10))) (bin .Add (rd 8) (cst (.int 3))) (bin .Sub (rd 8) (cst (.int 9))))) (t_format_time_9 φ_number_of φ_decimal_octets φ_format_two)
noncomputable def t_format_time_7 (φ_number_of φ_decimal_octets φ_format_two : Spec) : Sx := seq (put 8 (bin .FloorDiv (bin .Add (bin .Mult (cst (.int 5)) (rd 7)) (cst (.int 2))) (cst (.int 153)))) (t_format_time_8 φ_number_of φ_decimal_octets φ_format_two)
noncomputable def t_format_time_6 (φ_number_of φ_decimal_octets φ_format_two : Spec) : Sx := seq (put 7 (bin .Sub (rd 5) (bin .Sub (bin .Add (bin .Mult (cst (.int 365)) (rd 6)) (bin .FloorDiv (rd 6) (cst (.int 4)))) (bin .FloorDiv (rd 6) (cst (.int 100)))))) (t_format_time_7 φ_number_of φ_decimal_octets φ_format_two)
noncomputable def t_format_time_5 (φ_number_of φ_decimal_octets φ_format_two : Spec) : Sx := seq (put 6 (bin .FloorDiv (bin .Sub (bin .Add (bin .Sub (rd 5) (bin .FloorDiv (rd 5) (cst (.int 1460)))) (bin .FloorDiv (rd 5) (cst (.int 36524)))) (bin .FloorDiv (rd 5) (cst (.int 146096)))) (cst (.int 365)))) (t_format_time_6 φ_number_of φ_decimal_octets φ_format_two)
noncomputable def t_format_time_4 (φ_number_of φ_decimal_octets φ_format_two : Spec) : Sx := seq (put 5 (bin .Mod (rd 4) (cst (.int 146097)))) (t_format_time_5 φ_number_of φ_decimal_octets φ_format_two)
noncomputable def t_format_time_3 (φ_number_of φ_decimal_octets φ_format_two : Spec) : Sx := seq (put 4 (bin .Add (rd 2) (cst (.int 719468)))) (t_format_time_4 φ_number_of φ_decimal_octets φ_format_two)
noncomputable def t_format_time_2 (φ_number_of φ_decimal_octets φ_format_two : Spec) : Sx := seq (putS [2, 3] (tup' (cons' (bin .FloorDiv (rd 1) (cst (.int 86400))) (cons' (bin .Mod (rd 1) (cst (.int 86400))) nil')))) (t_format_time_3 φ_number_of φ_decimal_octets φ_format_two)
noncomputable def t_format_time_1 (φ_number_of φ_decimal_octets φ_format_two : Spec) : Sx := seq (iff' (cmpT .Is (rd 1) (cst .none)) (seq (ret' (cst (.byt []))) skip) skip) (t_format_time_2 φ_number_of φ_decimal_octets φ_format_two)
noncomputable def t_format_time_0 (φ_number_of φ_decimal_octets φ_format_two : Spec) : Sx := seq (put 1 (callF φ_number_of (cons' (rd 0) nil'))) (t_format_time_1 φ_number_of φ_decimal_octets φ_format_two)
noncomputable def sem_format_time (φ_number_of φ_decimal_octets φ_format_two : Spec) : Sx := (t_format_time_0 φ_number_of φ_decimal_octets φ_format_two)
noncomputable def Γ_format_folded : Ctx := ⟨[("octets", .local), ("is_folded", .local), ("bytes", .globalImplicit)], [some ("octets", false), some ("is_folded", false)], ["bytes"], true⟩
noncomputable def Γ_format_folded_1 : Ctx := ⟨[(".0", .local), ("octet", .local)], [some ("octet", false)], [], false⟩
noncomputable def t_format_folded_1 : Sx := seq (ret' (callP bytesP (cons' (comp' Γ_format_folded_1 [] (rd 0) (tN 0) (tt true) (ite' (cmp2T .LtE .LtE (cst (.int 65)) (rd 0) (cst (.int 90))) (bin .Add (rd 0) (cst (.int 32))) (rd 0))) nil'))) skip
noncomputable def t_format_folded_0 : Sx := seq (iff' (notT (vB (rd 1))) (seq (ret' (rd 0)) skip) skip) (t_format_folded_1)
noncomputable def sem_format_folded : Sx := (t_format_folded_0)
noncomputable def Γ_format_fits : Ctx := ⟨[("pattern", .local), ("octets", .local), ("at", .local), ("place", .local), ("star", .local), ("kept", .local), ("len", .globalImplicit)], [some ("pattern", false), some ("octets", false), some ("at", false), some ("place", false), some ("star", false), some ("kept", false)], ["len"], true⟩
noncomputable def c_format_fits_1 : Sx := (seq (putS [4, 5] (tup' (cons' (rd 2) (cons' (rd 3) nil')))) (seq (augI 2 (cst (.int 1))) skip))
noncomputable def c_format_fits_2 : Sx := (seq (augI 2 (cst (.int 1))) (seq (augI 3 (cst (.int 1))) skip))
noncomputable def c_format_fits_3 : Sx := (seq (augI 5 (cst (.int 1))) (seq (putS [2, 3] (tup' (cons' (bin .Add (rd 4) (cst (.int 1))) (cons' (rd 5) nil')))) skip))
noncomputable def b_format_fits_1 : Sx := (seq (iff' (andT (cmpT .Lt (rd 2) (callP lenP (cons' (rd 0) nil'))) (andT (cmpT .Eq (item (rd 0) (rd 2)) (cst (.int 42))) (tt true))) (c_format_fits_1) (seq (iff' (andT (cmpT .Lt (rd 2) (callP lenP (cons' (rd 0) nil'))) (andT (cmpT .In (item (rd 0) (rd 2)) (tup' (cons' (cst (.int 63)) (cons' (item (rd 1) (rd 3)) nil')))) (tt true))) (c_format_fits_2) (seq (iff' (cmpT .IsNot (rd 4) (cst .none)) (c_format_fits_3) (seq (ret' (cst (.bool false))) skip)) skip)) skip)) skip)
noncomputable def w_format_fits_1 : Sx := while' (cmpT .Lt (rd 3) (callP lenP (cons' (rd 1) nil'))) (b_format_fits_1)
noncomputable def b_format_fits_2 : Sx := (seq (augI 2 (cst (.int 1))) skip)
noncomputable def w_format_fits_2 : Sx := while' (andT (cmpT .Lt (rd 2) (callP lenP (cons' (rd 0) nil'))) (andT (cmpT .Eq (item (rd 0) (rd 2)) (cst (.int 42))) (tt true))) (b_format_fits_2)
noncomputable def t_format_fits_3 : Sx := seq (ret' (cmp .Eq (rd 2) (callP lenP (cons' (rd 0) nil')))) skip
noncomputable def t_format_fits_2 : Sx := seq (w_format_fits_2) (t_format_fits_3)
noncomputable def t_format_fits_1 : Sx := seq (w_format_fits_1) (t_format_fits_2)
noncomputable def t_format_fits_0 : Sx := seq (putT (tup' (cons' (cst (.int 0)) (cons' (cst (.int 0)) (cons' (cst .none) (cons' (cst (.int 0)) nil'))))) (tT 4 (tCons (tN 2) (tCons (tN 3) (tCons (tN 4) (tCons (tN 5) tNil)))))) (t_format_fits_1)
noncomputable def sem_format_fits : Sx := (t_format_fits_0)
noncomputable def Γ_format_whole : Ctx := ⟨[("octets", .local), ("number", .local), ("number_of", .globalImplicit)], [some ("octets", false), some ("number", false)], ["number_of"], true⟩
noncomputable def t_format_whole_1 (φ_number_of : Spec) : Sx := seq (ret' (ite' (andT (cmpT .IsNot (rd 1) (cst .none)) (andT (cmpT .Eq (slc (rd 0) pN (pI (cst (.int 1)))) (cst (.byt [45]))) (tt true))) (neg (rd 1)) (rd 1))) skip
noncomputable def t_format_whole_0 (φ_number_of : Spec) : Sx := seq (put 1 (callF φ_number_of (cons' (ite' (cmpT .Eq (slc (rd 0) pN (pI (cst (.int 1)))) (cst (.byt [45]))) (slc (rd 0) (pI (cst (.int 1))) pN) (rd 0)) nil'))) (t_format_whole_1 φ_number_of)
noncomputable def sem_format_whole (φ_number_of : Spec) : Sx := (t_format_whole_0 φ_number_of)
noncomputable def Γ_format_quotient : Ctx := ⟨[("one", .local), ("other", .local), ("found", .local), ("abs", .globalImplicit)], [some ("one", false), some ("other", false), some ("found", false)], ["abs"], true⟩
noncomputable def t_format_quotient_1 : Sx := seq (ret' (ite' (cmpT .Eq (cmp .Lt (rd 0) (cst (.int 0))) (cmp .Lt (rd 1) (cst (.int 0)))) (rd 2) (neg (rd 2)))) skip
noncomputable def t_format_quotient_0 : Sx := seq (put 2 (bin .FloorDiv (callP absP (cons' (rd 0) nil')) (callP absP (cons' (rd 1) nil')))) (t_format_quotient_1)
noncomputable def sem_format_quotient : Sx := (t_format_quotient_0)
noncomputable def Γ_format_reckoned : Ctx := ⟨[("word", .local), ("near", .local), ("far", .local), ("one", .local), ("other", .local), ("format_whole", .globalImplicit), ("format_truth", .globalImplicit), ("format_compared", .globalImplicit), ("decimal_octets", .globalImplicit), ("format_quotient", .globalImplicit)], [some ("word", false), some ("near", false), some ("far", false), some ("one", false), some ("other", false)], ["format_whole", "format_truth", "format_compared", "decimal_octets", "format_quotient"], true⟩
noncomputable def t_format_reckoned_7 (φ_format_whole φ_format_truth φ_format_compared φ_decimal_octets φ_format_quotient : Spec) : Sx := seq (ret' (ite' (cmpT .In (rd 0) (tup' (cons' (cst (.byt [109])) (cons' (cst (.byt [37])) nil')))) (callF φ_decimal_octets (cons' (bin .Sub (rd 3) (bin .Mult (rd 4) (callF φ_format_quotient (cons' (rd 3) (cons' (rd 4) nil'))))) nil')) (cst (.byt [])))) skip
noncomputable def t_format_reckoned_6 (φ_format_whole φ_format_truth φ_format_compared φ_decimal_octets φ_format_quotient : Spec) : Sx := seq (iff' (cmpT .Eq (rd 0) (cst (.byt [47]))) (seq (ret' (callF φ_decimal_octets (cons' (callF φ_format_quotient (cons' (rd 3) (cons' (rd 4) nil'))) nil'))) skip) skip) (t_format_reckoned_7 φ_format_whole φ_format_truth φ_format_compared φ_decimal_octets φ_format_quotient)
noncomputable def t_format_reckoned_5 (φ_format_whole φ_format_truth φ_format_compared φ_decimal_octets φ_format_quotient : Spec) : Sx := seq (iff' (cmpT .Eq (rd 0) (cst (.byt [42]))) (seq (ret' (callF φ_decimal_octets (cons' (bin .Mult (rd 3) (rd 4)) nil'))) skip) skip) (t_format_reckoned_6 φ_format_whole φ_format_truth φ_format_compared φ_decimal_octets φ_format_quotient)
noncomputable def t_format_reckoned_4 (φ_format_whole φ_format_truth φ_format_compared φ_decimal_octets φ_format_quotient : Spec) : Sx := seq (iff' (cmpT .Eq (rd 0) (cst (.byt [45]))) (seq (ret' (callF φ_decimal_octets (cons' (bin .Sub (rd 3) (rd 4)) nil'))) skip) skip) (t_format_reckoned_5 φ_format_whole φ_format_truth φ_format_compared φ_decimal_octets φ_format_quotient)
noncomputable def t_format_reckoned_3 (φ_format_whole φ_format_truth φ_format_compared φ_decimal_octets φ_format_quotient : Spec) : Sx := seq (iff' (cmpT .Eq (rd 0) (cst (.byt [43]))) (seq (ret' (callF φ_decimal_octets (cons' (bin .Add (rd 3) (rd 4)) nil'))) skip) skip) (t_format_reckoned_4 φ_format_whole φ_format_truth φ_format_compared φ_decimal_octets φ_format_quotient)
noncomputable def t_format_reckoned_2 (φ_format_whole φ_format_truth φ_format_compared φ_decimal_octets φ_format_quotient : Spec) : Sx := seq (iff' (cmpT .In (rd 0) (tup' (cons' (cst (.byt [61, 61])) (cons' (cst (.byt [33, 61])) (cons' (cst (.byt [60])) (cons' (cst (.byt [62])) (cons' (cst (.byt [60, 61])) (cons' (cst (.byt [62, 61])) nil')))))))) (seq (ret' (callF φ_format_truth (cons' (callF φ_format_compared (cons' (rd 0) (cons' (rd 3) (cons' (rd 4) nil')))) nil'))) skip) skip) (t_format_reckoned_3 φ_format_whole φ_format_truth φ_format_compared φ_decimal_octets φ_format_quotient)
noncomputable def t_format_reckoned_1 (φ_format_whole φ_format_truth φ_format_compared φ_decimal_octets φ_format_quotient : Spec) : Sx := seq (iff' (orT (cmpT .Is (rd 3) (cst .none)) (orT (cmpT .Is (rd 4) (cst .none)) (orT (andT (cmpT .In (rd 0) (tup' (cons' (cst (.byt [47])) (cons' (cst (.byt [109])) (cons' (cst (.byt [37])) nil'))))) (andT (cmpT .Eq (rd 4) (cst (.int 0))) (tt true))) (tt false)))) (seq (ret' (cst (.byt []))) skip) skip) (t_format_reckoned_2 φ_format_whole φ_format_truth φ_format_compared φ_decimal_octets φ_format_quotient)
noncomputable def t_format_reckoned_0 (φ_format_whole φ_format_truth φ_format_compared φ_decimal_octets φ_format_quotient : Spec) : Sx := seq (putS [3, 4] (tup' (cons' (callF φ_format_whole (cons' (rd 1) nil')) (cons' (callF φ_format_whole (cons' (rd 2) nil')) nil')))) (t_format_reckoned_1 φ_format_whole φ_format_truth φ_format_compared φ_decimal_octets φ_format_quotient)
noncomputable def sem_format_reckoned (φ_format_whole φ_format_truth φ_format_compared φ_decimal_octets φ_format_quotient : Spec) : Sx := (t_format_reckoned_0 φ_format_whole φ_format_truth φ_format_compared φ_decimal_octets φ_format_quotient)
noncomputable def Γ_format_replaced : Ctx := ⟨[("octets", .local), ("told", .local), ("is_folded", .local), ("wanted", .local), ("looked", .local), ("found", .local), ("at", .local), ("place", .local), ("len", .globalImplicit), ("format_folded", .globalImplicit), ("bytearray", .globalImplicit), ("MOST_LONG", .globalImplicit), ("BadFormat", .globalImplicit), ("bytes", .globalImplicit)], [some ("octets", false), some ("told", false), some ("is_folded", false), some ("wanted", false), some ("looked", false), some ("found", false), some ("at", false), some ("place", false)], ["len", "format_folded", "bytearray", "MOST_LONG", "BadFormat", "bytes"], true⟩
noncomputable def b_format_replaced_1 (φ_format_folded : Spec) : Sx := (seq (augO 5 (bin .Add (slc (rd 0) (pI (rd 6)) (pI (rd 7))) (item (rd 1) (cst (.int 1))))) (seq (iff' (cmpT .Gt (callP lenO (cons' (rdO 5) nil')) (cst (.int 100000))) (seq never skip) skip) (seq (put 6 (bin .Add (rd 7) (callP lenP (cons' (rd 3) nil')))) (seq (put 7 (meth findP (rd 4) (cons' (rd 3) (cons' (rd 6) nil')))) skip))))
noncomputable def w_format_replaced_1 (φ_format_folded : Spec) : Sx := while' (cmpT .GtE (rd 7) (cst (.int 0))) (b_format_replaced_1 φ_format_folded)
noncomputable def t_format_replaced_6 (φ_format_folded : Spec) : Sx := seq (ret' (bin .Add (callP bytesO (cons' (rdO 5) nil')) (slc (rd 0) (pI (rd 6)) pN))) skip
noncomputable def t_format_replaced_5 (φ_format_folded : Spec) : Sx := seq (w_format_replaced_1 φ_format_folded) (t_format_replaced_6 φ_format_folded)
noncomputable def t_format_replaced_4 (φ_format_folded : Spec) : Sx := seq (put 7 (meth findP (rd 4) (cons' (rd 3) (cons' (rd 6) nil')))) (t_format_replaced_5 φ_format_folded)
noncomputable def t_format_replaced_3 (φ_format_folded : Spec) : Sx := seq (putS [5, 6] (tup' (cons' (baP []) (cons' (cst (.int 0)) nil')))) (t_format_replaced_4 φ_format_folded)
noncomputable def t_format_replaced_2 (φ_format_folded : Spec) : Sx := seq (putS [3, 4] (tup' (cons' (callF φ_format_folded (cons' (item (rd 1) (cst (.int 0))) (cons' (rd 2) nil'))) (cons' (callF φ_format_folded (cons' (rd 0) (cons' (rd 2) nil'))) nil')))) (t_format_replaced_3 φ_format_folded)
noncomputable def t_format_replaced_1 (φ_format_folded : Spec) : Sx := seq (put 2 (andE (cmp .Gt (callP lenP (cons' (rd 1) nil')) (cst (.int 2))) (cmp .In (cst (.byt [105])) (item (rd 1) (cst (.int 2)))))) (t_format_replaced_2 φ_format_folded)
noncomputable def t_format_replaced_0 (φ_format_folded : Spec) : Sx := seq (iff' (orT (cmpT .Lt (callP lenP (cons' (rd 1) nil')) (cst (.int 2))) (orT (cmpT .Eq (item (rd 1) (cst (.int 0))) (cst (.byt []))) (tt false))) (seq (ret' (rd 0)) skip) skip) (t_format_replaced_1 φ_format_folded)
noncomputable def sem_format_replaced (φ_format_folded : Spec) : Sx := (t_format_replaced_0 φ_format_folded)
noncomputable def Γ_format_sign_end : Ctx := ⟨[("octets", .local), ("at", .local), ("lead", .local), ("end", .local), ("left", .local), ("bits", .local), ("low", .local), ("high", .local), ("sign_lead", .globalImplicit), ("len", .globalImplicit)], [some ("octets", false), some ("at", false), some ("lead", false), some ("end", false), some ("left", false), some ("bits", false), some ("low", false), some ("high", false)], ["sign_lead", "len"], true⟩
noncomputable def b_format_sign_end_1 (φ_sign_lead : Spec) : Sx := (seq (putT (tup' (cons' (bin .Sub (rd 4) (cst (.int 1))) (cons' (bin .Add (rd 3) (cst (.int 1))) (cons' (cst (.int 128)) (cons' (cst (.int 191)) nil'))))) (tT 4 (tCons (tN 4) (tCons (tN 3) (tCons (tN 6) (tCons (tN 7) tNil)))))) skip)
noncomputable def w_format_sign_end_1 (φ_sign_lead : Spec) : Sx := while' (andT (cmpT .Gt (rd 4) (cst (.int 0))) (andT (cmpT .Lt (rd 3) (callP lenP (cons' (rd 0) nil'))) (andT (cmp2T .LtE .LtE (rd 6) (item (rd 0) (rd 3)) (rd 7)) (tt true)))) (b_format_sign_end_1 φ_sign_lead)
noncomputable def c_format_sign_end_1 (φ_sign_lead : Spec) : Sx := (seq (putT (rd 2) (tT 4 (tCons (tN 4) (tCons (tN 5) (tCons (tN 6) (tCons (tN 7) tNil)))))) (seq (w_format_sign_end_1 φ_sign_lead) skip))
noncomputable def t_format_sign_end_2 (φ_sign_lead : Spec) : Sx := seq (ret' (rd 3)) skip
noncomputable def t_format_sign_end_1 (φ_sign_lead : Spec) : Sx := seq (iff' (cmpT .IsNot (rd 2) (cst .none)) (c_format_sign_end_1 φ_sign_lead) skip) (t_format_sign_end_2 φ_sign_lead)
noncomputable def t_format_sign_end_0 (φ_sign_lead : Spec) : Sx := seq (putS [2, 3] (tup' (cons' (callF φ_sign_lead (cons' (item (rd 0) (rd 1)) nil')) (cons' (bin .Add (rd 1) (cst (.int 1))) nil')))) (t_format_sign_end_1 φ_sign_lead)
noncomputable def sem_format_sign_end (φ_sign_lead : Spec) : Sx := (t_format_sign_end_0 φ_sign_lead)
noncomputable def Γ_format_pieces : Ctx := ⟨[("octets", .local), ("found", .local), ("at", .local), ("end", .local), ("len", .globalImplicit), ("format_sign_end", .globalImplicit)], [some ("octets", false), some ("found", false), some ("at", false), some ("end", false)], ["len", "format_sign_end"], true⟩
noncomputable def c_format_pieces_1 (φ_format_sign_end : Spec) : Sx := (seq (appL 1 (tup' (cons' (cst (.bool false)) (cons' (slc (rd 0) (pI (rd 2)) (pI (bin .Add (rd 3) (cst (.int 1))))) nil')))) (seq (put 2 (bin .Add (rd 3) (cst (.int 1)))) skip))
noncomputable def c_format_pieces_2 (φ_format_sign_end : Spec) : Sx := (seq (put 3 (ite' (cmpT .Eq (slc (rd 0) (pI (rd 2)) (pI (bin .Add (rd 2) (cst (.int 2))))) (cst (.byt [35, 35]))) (bin .Add (rd 2) (cst (.int 2))) (callF φ_format_sign_end (cons' (rd 0) (cons' (rd 2) nil'))))) (seq (appL 1 (tup' (cons' (cst (.bool true)) (cons' (slc (rd 0) (pI (rd 2)) (pI (rd 3))) nil')))) (seq (put 2 (rd 3)) skip)))
noncomputable def b_format_pieces_1 (φ_format_sign_end : Spec) : Sx := (seq (put 3 (ite' (cmpT .Eq (slc (rd 0) (pI (rd 2)) (pI (bin .Add (rd 2) (cst (.int 2))))) (cst (.byt [35, 91]))) (meth findP (rd 0) (cons' (cst (.byt [93])) (cons' (rd 2) nil'))) (neg (cst (.int 1))))) (seq (iff' (cmpT .GtE (rd 3) (cst (.int 0))) (c_format_pieces_1 φ_format_sign_end) (c_format_pieces_2 φ_format_sign_end)) skip))
noncomputable def w_format_pieces_1 (φ_format_sign_end : Spec) : Sx := while' (cmpT .Lt (rd 2) (callP lenP (cons' (rd 0) nil'))) (b_format_pieces_1 φ_format_sign_end)
noncomputable def t_format_pieces_2 (φ_format_sign_end : Spec) : Sx := seq (retO 1) skip
noncomputable def t_format_pieces_1 (φ_format_sign_end : Spec) : Sx := seq (w_format_pieces_1 φ_format_sign_end) (t_format_pieces_2 φ_format_sign_end)
noncomputable def t_format_pieces_0 (φ_format_sign_end : Spec) : Sx := seq (putS [1, 2] (tup' (cons' (ownL nil') (cons' (cst (.int 0)) nil')))) (t_format_pieces_1 φ_format_sign_end)
noncomputable def sem_format_pieces (φ_format_sign_end : Spec) : Sx := (t_format_pieces_0 φ_format_sign_end)
noncomputable def Γ_format_width : Ctx := ⟨[("octets", .local), ("len", .globalImplicit), ("format_pieces", .globalImplicit)], [some ("octets", false)], ["len", "format_pieces"], true⟩
noncomputable def Γ_format_width_1 : Ctx := ⟨[(".0", .local), ("one", .local)], [some ("one", false)], [], false⟩
noncomputable def t_format_width_0 (φ_format_pieces : Spec) : Sx := seq (ret' (callP lenP (cons' (comp' Γ_format_width_1 [] (callF φ_format_pieces (cons' (rd 0) nil')) (tN 0) (vB (item (rd 0) (cst (.int 0)))) (rd 0)) nil'))) skip
noncomputable def sem_format_width (φ_format_pieces : Spec) : Sx := (t_format_width_0 φ_format_pieces)
noncomputable def Γ_format_cut : Ctx := ⟨[("octets", .local), ("most", .local), ("is_from_end", .local), ("pieces", .local), ("skipped", .local), ("found", .local), ("many", .local), ("is_sign", .local), ("part", .local), ("format_pieces", .globalImplicit), ("len", .globalImplicit), ("bytearray", .globalImplicit), ("max", .globalImplicit), ("bytes", .globalImplicit)], [some ("octets", false), some ("most", false), some ("is_from_end", false), some ("pieces", false), some ("skipped", false), some ("found", false), some ("many", false), some ("is_sign", false), some ("part", false)], ["format_pieces", "len", "bytearray", "max", "bytes"], true⟩
noncomputable def Γ_format_cut_1 : Ctx := ⟨[(".0", .local), ("one", .local)], [some ("one", false)], [], false⟩
noncomputable def b_format_cut_1 (φ_format_pieces : Spec) : Sx := (seq (iff' (vB (rd 7)) (seq (augI 6 (cst (.int 1))) skip) skip) (seq (iff' (orT (notT (vB (rd 7))) (orT (andT (cmpT .Gt (rd 6) (rd 4)) (andT (cmpT .LtE (rd 6) (bin .Add (rd 1) (callP maxP (cons' (cst (.int 0)) (cons' (rd 4) nil'))))) (tt true))) (tt false))) (seq (augO 5 (rd 8)) skip) skip) skip))
noncomputable def w_format_cut_1 (φ_format_pieces : Spec) : Sx := for' (rd 3) (tT 2 (tCons (tN 7) (tCons (tN 8) tNil))) (b_format_cut_1 φ_format_pieces)
noncomputable def t_format_cut_4 (φ_format_pieces : Spec) : Sx := seq (ret' (callP bytesO (cons' (rdO 5) nil'))) skip
noncomputable def t_format_cut_3 (φ_format_pieces : Spec) : Sx := seq (w_format_cut_1 φ_format_pieces) (t_format_cut_4 φ_format_pieces)
noncomputable def t_format_cut_2 (φ_format_pieces : Spec) : Sx := seq (putS [5, 6] (tup' (cons' (baP []) (cons' (cst (.int 0)) nil')))) (t_format_cut_3 φ_format_pieces)
noncomputable def t_format_cut_1 (φ_format_pieces : Spec) : Sx := seq (put 4 (ite' (vB (rd 2)) (bin .Sub (callP lenP (cons' (comp' Γ_format_cut_1 [] (rd 3) (tN 0) (vB (item (rd 0) (cst (.int 0)))) (rd 0)) nil')) (rd 1)) (cst (.int 0)))) (t_format_cut_2 φ_format_pieces)
noncomputable def t_format_cut_0 (φ_format_pieces : Spec) : Sx := seq (put 3 (callF φ_format_pieces (cons' (rd 0) nil'))) (t_format_cut_1 φ_format_pieces)
noncomputable def sem_format_cut (φ_format_pieces : Spec) : Sx := (t_format_cut_0 φ_format_pieces)
noncomputable def Γ_format_limited : Ctx := ⟨[("octets", .local), ("told", .local), ("most", .local), ("many", .local), ("sign", .local), ("found", .local), ("format_whole", .globalImplicit), ("abs", .globalImplicit), ("format_width", .globalImplicit), ("len", .globalImplicit), ("format_cut", .globalImplicit)], [some ("octets", false), some ("told", false), some ("most", false), some ("many", false), some ("sign", false), some ("found", false)], ["format_whole", "abs", "format_width", "len", "format_cut"], true⟩
noncomputable def t_format_limited_6 (φ_format_whole φ_format_width φ_format_cut : Spec) : Sx := seq (ret' (ite' (cmpT .Lt (rd 2) (cst (.int 0))) (bin .Add (rd 4) (rd 5)) (bin .Add (rd 5) (rd 4)))) skip
noncomputable def t_format_limited_5 (φ_format_whole φ_format_width φ_format_cut : Spec) : Sx := seq (put 5 (callF φ_format_cut (cons' (rd 0) (cons' (rd 3) (cons' (cmp .Lt (rd 2) (cst (.int 0))) nil'))))) (t_format_limited_6 φ_format_whole φ_format_width φ_format_cut)
noncomputable def t_format_limited_4 (φ_format_whole φ_format_width φ_format_cut : Spec) : Sx := seq (put 4 (ite' (cmpT .Gt (callP lenP (cons' (rd 1) nil')) (cst (.int 1))) (item (rd 1) (cst (.int 1))) (cst (.byt [])))) (t_format_limited_5 φ_format_whole φ_format_width φ_format_cut)
noncomputable def t_format_limited_3 (φ_format_whole φ_format_width φ_format_cut : Spec) : Sx := seq (iff' (cmpT .LtE (callF φ_format_width (cons' (rd 0) nil')) (rd 3)) (seq (ret' (rd 0)) skip) skip) (t_format_limited_4 φ_format_whole φ_format_width φ_format_cut)
noncomputable def t_format_limited_2 (φ_format_whole φ_format_width φ_format_cut : Spec) : Sx := seq (put 3 (callP absP (cons' (rd 2) nil'))) (t_format_limited_3 φ_format_whole φ_format_width φ_format_cut)
noncomputable def t_format_limited_1 (φ_format_whole φ_format_width φ_format_cut : Spec) : Sx := seq (iff' (orT (cmpT .Is (rd 2) (cst .none)) (orT (cmpT .Eq (rd 2) (cst (.int 0))) (tt false))) (seq (ret' (rd 0)) skip) skip) (t_format_limited_2 φ_format_whole φ_format_width φ_format_cut)
noncomputable def t_format_limited_0 (φ_format_whole φ_format_width φ_format_cut : Spec) : Sx := seq (put 2 (ite' (cmpT .NotEq (rd 1) (lst' nil')) (callF φ_format_whole (cons' (item (rd 1) (cst (.int 0))) nil')) (cst .none))) (t_format_limited_1 φ_format_whole φ_format_width φ_format_cut)
noncomputable def sem_format_limited (φ_format_whole φ_format_width φ_format_cut : Spec) : Sx := (t_format_limited_0 φ_format_whole φ_format_width φ_format_cut)
noncomputable def Γ_format_filled : Ctx := ⟨[("octets", .local), ("told", .local), ("width", .local), ("blanks", .local), ("format_whole", .globalImplicit), ("max", .globalImplicit), ("min", .globalImplicit), ("abs", .globalImplicit), ("MOST_WIDE", .globalImplicit), ("format_width", .globalImplicit)], [some ("octets", false), some ("told", false), some ("width", false), some ("blanks", false)], ["format_whole", "max", "min", "abs", "MOST_WIDE", "format_width"], true⟩
noncomputable def t_format_filled_3 (φ_format_whole φ_format_width : Spec) : Sx := seq (ret' (ite' (cmpT .GtE (rd 2) (cst (.int 0))) (bin .Add (rd 0) (rd 3)) (bin .Add (rd 3) (rd 0)))) skip
noncomputable def t_format_filled_2 (φ_format_whole φ_format_width : Spec) : Sx := seq (put 3 (bin .Mult (cst (.byt [32])) (callP maxP (cons' (cst (.int 0)) (cons' (bin .Sub (callP minP (cons' (callP absP (cons' (rd 2) nil')) (cons' (cst (.int 10000)) nil'))) (callF φ_format_width (cons' (rd 0) nil'))) nil'))))) (t_format_filled_3 φ_format_whole φ_format_width)
noncomputable def t_format_filled_1 (φ_format_whole φ_format_width : Spec) : Sx := seq (iff' (cmpT .Is (rd 2) (cst .none)) (seq (ret' (rd 0)) skip) skip) (t_format_filled_2 φ_format_whole φ_format_width)
noncomputable def t_format_filled_0 (φ_format_whole φ_format_width : Spec) : Sx := seq (put 2 (ite' (cmpT .NotEq (rd 1) (lst' nil')) (callF φ_format_whole (cons' (item (rd 1) (cst (.int 0))) nil')) (cst .none))) (t_format_filled_1 φ_format_whole φ_format_width)
noncomputable def sem_format_filled (φ_format_whole φ_format_width : Spec) : Sx := (t_format_filled_0 φ_format_whole φ_format_width)
noncomputable def Γ__law_deck : Ctx := ⟨[("script", .local), ("cell", .local), ("cells", .local), ("mixed", .local)], [some ("script", false), some ("cell", false), some ("cells", false), some ("mixed", false)], [], true⟩
noncomputable def Γ__law_deck_1 : Ctx := ⟨[(".0", .local), ("cell", .local), ("int", .globalImplicit)], [some ("cell", false)], ["int"], false⟩
noncomputable def b__law_deck_1 : Sx := (seq (put 3 (bin .Mod (bin .Add (bin .Add (bin .Mult (rd 3) (cst (.int 48271))) (bin .Mod (rd 1) (cst (.int 2147483629)))) (cst (.int 29696))) (cst (.int 2147483587)))) skip)
noncomputable def w__law_deck_1 : Sx := for' (rd 2) (tN 1) (b__law_deck_1)
noncomputable def t__law_deck_2 : Sx := seq (retDk 2 3) skip
noncomputable def t__law_deck_1 : Sx := seq (w__law_deck_1) (t__law_deck_2)
noncomputable def t__law_deck_0 : Sx := seq (putS [2, 3] (tup' (cons' (comp' Γ__law_deck_1 [] (slc (rd 0) pN (pI (cst (.int 20)))) (tN 0) (tt true) (bin .Mod (callP intP (cons' (rd 0) nil')) (bin .Pow (cst (.int 10)) (cst (.int 60))))) (cons' (cst (.int 29696)) nil')))) (t__law_deck_1)
noncomputable def sem__law_deck : Sx := (t__law_deck_0)
noncomputable def Γ__law_draw : Ctx := ⟨[("deck", .local), ("below", .local), ("figure", .local), ("cell", .local)], [some ("deck", false), some ("below", false), some ("figure", false), some ("cell", false)], [], true⟩
noncomputable def c__law_draw_1 : Sx := (seq (dkApp 0 (bin .FloorDiv (rd 3) (rd 1))) (seq (ret' (bin .Mod (rd 3) (rd 1))) skip))
noncomputable def c__law_draw_2 : Sx := (seq (put 3 (dkPop 0)) (seq (iff' (cmpT .GtE (rd 3) (cst (.int 1000000))) (c__law_draw_1) skip) (seq (put 2 (bin .Add (rd 2) (bin .Mod (rd 3) (cst (.int 2147483563))))) skip)))
noncomputable def t__law_draw_5 : Sx := seq (ret' (bin .Mod (bin .FloorDiv (bin .Mod (bin .Mult (rd 2) (cst (.int 39373))) (cst (.int 2147483579))) (cst (.int 64))) (rd 1))) skip
noncomputable def t__law_draw_4 : Sx := seq (put 2 (bin .Mod (bin .Add (bin .Mult (rd 2) (rd 2)) (cst (.int 2081))) (cst (.int 2147483587)))) (t__law_draw_5)
noncomputable def t__law_draw_3 : Sx := seq (put 2 (bin .Mod (bin .Mult (bin .Mod (rd 2) (cst (.int 2147483629))) (cst (.int 40692))) (cst (.int 2147483647)))) (t__law_draw_4)
noncomputable def t__law_draw_2 : Sx := seq (iff' (dkNE 0) (c__law_draw_2) skip) (t__law_draw_3)
noncomputable def t__law_draw_1 : Sx := seq (put 2 (bin .Add (dkI (·.mixed) 0) (bin .Mult (bin .Mult (cst (.int 61613)) (dkI (·.turn) 0)) (dkI (·.turn) 0)))) (t__law_draw_2)
noncomputable def t__law_draw_0 : Sx := seq (dkSet 0 (bin .Add (dkI (·.turn) 0) (cst (.int 1)))) (t__law_draw_1)
noncomputable def sem__law_draw : Sx := (t__law_draw_0)
noncomputable def Γ__law_pick : Ctx := ⟨[("deck", .local), ("some", .local), ("_law_draw", .globalImplicit), ("len", .globalImplicit)], [some ("deck", false), some ("some", false)], ["_law_draw", "len"], true⟩
noncomputable def t__law_pick_0 (φ__law_draw : Spec) : Sx := seq (ret' (item (rd 1) (callF φ__law_draw (cons' (rd 0) (cons' (callP lenP (cons' (rd 1) nil')) nil'))))) skip
noncomputable def sem__law_pick (φ__law_draw : Spec) : Sx := (t__law_pick_0 φ__law_draw)
noncomputable def Γ__law_figures : Ctx := ⟨[("number", .local), ("found", .local), ("rest", .local), ("abs", .globalImplicit), ("bytes", .globalImplicit)], [some ("number", false), some ("found", false), some ("rest", false)], ["abs", "bytes"], true⟩
noncomputable def b__law_figures_1 : Sx := (seq (putS [1, 2] (tup' (cons' (bin .Add (callP bytesP (cons' (lst' (cons' (bin .Add (cst (.int 48)) (bin .Mod (rd 2) (cst (.int 10)))) nil')) nil')) (rd 1)) (cons' (bin .FloorDiv (rd 2) (cst (.int 10))) nil')))) skip)
noncomputable def w__law_figures_1 : Sx := while' (orT (cmpT .Gt (rd 2) (cst (.int 0))) (orT (cmpT .Eq (rd 1) (cst (.byt []))) (tt false))) (b__law_figures_1)
noncomputable def t__law_figures_2 : Sx := seq (ret' (bin .Add (ite' (cmpT .Lt (rd 0) (cst (.int 0))) (cst (.byt [45])) (cst (.byt []))) (rd 1))) skip
noncomputable def t__law_figures_1 : Sx := seq (w__law_figures_1) (t__law_figures_2)
noncomputable def t__law_figures_0 : Sx := seq (putS [1, 2] (tup' (cons' (cst (.byt [])) (cons' (callP absP (cons' (rd 0) nil')) nil')))) (t__law_figures_1)
noncomputable def sem__law_figures : Sx := (t__law_figures_0)
noncomputable def Γ__law_number : Ctx := ⟨[("deck", .local), ("way", .local), ("number", .local), ("_law_draw", .globalImplicit), ("_law_pick", .globalImplicit), ("_law_figures", .globalImplicit), ("abs", .globalImplicit)], [some ("deck", false), some ("way", false), some ("number", false)], ["_law_draw", "_law_pick", "_law_figures", "abs"], true⟩
noncomputable def t__law_number_3 (φ__law_draw φ__law_pick φ__law_figures : Spec) : Sx := seq (ret' (tup' (cons' (ite' (cmpT .Gt (rd 1) (cst (.int 4))) (bin .Add (ite' (cmpT .Lt (rd 2) (cst (.int 0))) (cst (.byt [45, 48, 48])) (cst (.byt [48, 48]))) (callF φ__law_figures (cons' (callP absP (cons' (rd 2) nil')) nil'))) (callF φ__law_figures (cons' (rd 2) nil'))) (cons' (rd 2) nil')))) skip
noncomputable def t__law_number_2 (φ__law_draw φ__law_pick φ__law_figures : Spec) : Sx := seq (put 2 (bin .Mult (callF φ__law_pick (cons' (rd 0) (cons' (lst' (cons' (cst (.int 0)) (cons' (cst (.int 1)) (cons' (cst (.int 2)) (cons' (cst (.int 3)) (cons' (cst (.int 7)) (cons' (cst (.int 10)) (cons' (cst (.int 12)) (cons' (cst (.int 250)) nil'))))))))) nil'))) (ite' (cmpT .Eq (bin .Mod (rd 1) (cst (.int 2))) (cst (.int 0))) (cst (.int 1)) (neg (cst (.int 1)))))) (t__law_number_3 φ__law_draw φ__law_pick φ__law_figures)
noncomputable def t__law_number_1 (φ__law_draw φ__law_pick φ__law_figures : Spec) : Sx := seq (iff' (cmpT .Eq (rd 1) (cst (.int 7))) (seq (ret' (tup' (cons' (callF φ__law_pick (cons' (rd 0) (cons' (lst' (cons' (cst (.byt [])) (cons' (cst (.byt [45])) (cons' (cst (.byt [43, 49])) (cons' (cst (.byt [32, 49])) (cons' (cst (.byt [49, 97])) (cons' (cst (.byt [45, 45, 49])) (cons' (cst (.byt [120])) nil')))))))) nil'))) (cons' (cst .none) nil')))) skip) skip) (t__law_number_2 φ__law_draw φ__law_pick φ__law_figures)
noncomputable def t__law_number_0 (φ__law_draw φ__law_pick φ__law_figures : Spec) : Sx := seq (put 1 (callF φ__law_draw (cons' (rd 0) (cons' (cst (.int 8)) nil')))) (t__law_number_1 φ__law_draw φ__law_pick φ__law_figures)
noncomputable def sem__law_number (φ__law_draw φ__law_pick φ__law_figures : Spec) : Sx := (t__law_number_0 φ__law_draw φ__law_pick φ__law_figures)
noncomputable def Γ__law_reckoned_right : Ctx := ⟨[("deck", .local), ("near", .local), ("one", .local), ("far", .local), ("other", .local), ("word", .local), ("due", .local), ("part", .local), ("_law_number", .globalImplicit), ("_law_pick", .globalImplicit), ("format_whole", .globalImplicit), ("abs", .globalImplicit), ("int", .globalImplicit), ("format_reckoned", .globalImplicit), ("_law_figures", .globalImplicit)], [some ("deck", false), some ("near", false), some ("one", false), some ("far", false), some ("other", false), some ("word", false), some ("due", false), some ("part", false)], ["_law_number", "_law_pick", "format_whole", "abs", "int", "format_reckoned", "_law_figures"], true⟩
noncomputable def c__law_reckoned_right_1 (φ__law_number φ__law_pick φ_format_whole φ_format_reckoned φ__law_figures : Spec) : Sx := (seq (put 6 (dget [[61, 61], [33, 61], [60], [62]] (dCons (cmp .Eq (rd 2) (rd 4)) (dCons (cmp .NotEq (rd 2) (rd 4)) (dCons (cmp .Lt (rd 2) (rd 4)) (dCons (cmp .Gt (rd 2) (rd 4)) dNil)))) (rd 5))) (seq (put 6 (callP intP (cons' (ite' (cmpT .Is (rd 6) (cst .none)) (ite' (cmpT .Eq (rd 5) (cst (.byt [60, 61]))) (cmp .LtE (rd 2) (rd 4)) (cmp .GtE (rd 2) (rd 4))) (rd 6)) nil'))) skip))
noncomputable def c__law_reckoned_right_2 (φ__law_number φ__law_pick φ_format_whole φ_format_reckoned φ__law_figures : Spec) : Sx := (seq (put 7 (ite' (cmpT .Eq (rd 4) (cst (.int 0))) (cst .none) (bin .Mult (bin .FloorDiv (callP absP (cons' (rd 2) nil')) (callP absP (cons' (rd 4) nil'))) (ite' (cmpT .Eq (cmp .Lt (rd 2) (cst (.int 0))) (cmp .Lt (rd 4) (cst (.int 0)))) (cst (.int 1)) (neg (cst (.int 1))))))) (seq (iff' (cmpT .In (rd 5) (tup' (cons' (cst (.byt [47])) (cons' (cst (.byt [109])) (cons' (cst (.byt [37])) nil'))))) (seq (put 6 (ite' (orT (cmpT .Eq (rd 5) (cst (.byt [47]))) (orT (cmpT .Is (rd 7) (cst .none)) (tt false))) (rd 7) (bin .Sub (rd 2) (bin .Mult (rd 4) (rd 7))))) skip) (seq (iff' (cmpT .In (rd 5) (tup' (cons' (cst (.byt [43])) (cons' (cst (.byt [45])) (cons' (cst (.byt [42])) nil'))))) (seq (put 6 (ite' (cmpT .Eq (rd 5) (cst (.byt [43]))) (bin .Add (rd 2) (rd 4)) (ite' (cmpT .Eq (rd 5) (cst (.byt [45]))) (bin .Sub (rd 2) (rd 4)) (bin .Mult (rd 2) (rd 4))))) skip) (c__law_reckoned_right_1 φ__law_number φ__law_pick φ_format_whole φ_format_reckoned φ__law_figures)) skip)) skip))
noncomputable def t__law_reckoned_right_4 (φ__law_number φ__law_pick φ_format_whole φ_format_reckoned φ__law_figures : Spec) : Sx := seq (ret' (cmp .Eq (callF φ_format_reckoned (cons' (rd 5) (cons' (rd 1) (cons' (rd 3) nil')))) (ite' (cmpT .Is (rd 6) (cst .none)) (cst (.byt [])) (callF φ__law_figures (cons' (rd 6) nil'))))) skip
noncomputable def t__law_reckoned_right_3 (φ__law_number φ__law_pick φ_format_whole φ_format_reckoned φ__law_figures : Spec) : Sx := seq (iff' (andT (cmpT .IsNot (rd 2) (cst .none)) (andT (cmpT .IsNot (rd 4) (cst .none)) (andT (cmpT .NotEq (rd 5) (cst (.byt [120]))) (tt true)))) (c__law_reckoned_right_2 φ__law_number φ__law_pick φ_format_whole φ_format_reckoned φ__law_figures) skip) (t__law_reckoned_right_4 φ__law_number φ__law_pick φ_format_whole φ_format_reckoned φ__law_figures)
noncomputable def t__law_reckoned_right_2 (φ__law_number φ__law_pick φ_format_whole φ_format_reckoned φ__law_figures : Spec) : Sx := seq (iff' (orT (cmpT .NotEq (callF φ_format_whole (cons' (rd 1) nil')) (rd 2)) (orT (cmpT .NotEq (callF φ_format_whole (cons' (rd 3) nil')) (rd 4)) (tt false))) (seq (ret' (cst (.bool false))) skip) skip) (t__law_reckoned_right_3 φ__law_number φ__law_pick φ_format_whole φ_format_reckoned φ__law_figures)
noncomputable def t__law_reckoned_right_1 (φ__law_number φ__law_pick φ_format_whole φ_format_reckoned φ__law_figures : Spec) : Sx := seq (putS [5, 6] (tup' (cons' (callF φ__law_pick (cons' (rd 0) (cons' (lst' (cons' (cst (.byt [47])) (cons' (cst (.byt [109])) (cons' (cst (.byt [37])) (cons' (cst (.byt [43])) (cons' (cst (.byt [45])) (cons' (cst (.byt [42])) (cons' (cst (.byt [61, 61])) (cons' (cst (.byt [33, 61])) (cons' (cst (.byt [60])) (cons' (cst (.byt [62])) (cons' (cst (.byt [60, 61])) (cons' (cst (.byt [62, 61])) (cons' (cst (.byt [120])) nil')))))))))))))) nil'))) (cons' (cst .none) nil')))) (t__law_reckoned_right_2 φ__law_number φ__law_pick φ_format_whole φ_format_reckoned φ__law_figures)
noncomputable def t__law_reckoned_right_0 (φ__law_number φ__law_pick φ_format_whole φ_format_reckoned φ__law_figures : Spec) : Sx := seq (putT (tup' (cons' (callF φ__law_number (cons' (rd 0) nil')) (cons' (callF φ__law_number (cons' (rd 0) nil')) nil'))) (tT 2 (tCons (tT 2 (tCons (tN 1) (tCons (tN 2) tNil))) (tCons (tT 2 (tCons (tN 3) (tCons (tN 4) tNil))) tNil)))) (t__law_reckoned_right_1 φ__law_number φ__law_pick φ_format_whole φ_format_reckoned φ__law_figures)
noncomputable def sem__law_reckoned_right (φ__law_number φ__law_pick φ_format_whole φ_format_reckoned φ__law_figures : Spec) : Sx := (t__law_reckoned_right_0 φ__law_number φ__law_pick φ_format_whole φ_format_reckoned φ__law_figures)
noncomputable def Γ__law_is_long : Ctx := ⟨[("year", .local)], [some ("year", false)], [], true⟩
noncomputable def t__law_is_long_0 : Sx := seq (ret' (andE (cmp .Eq (bin .Mod (rd 0) (cst (.int 4))) (cst (.int 0))) (orE (cmp .NotEq (bin .Mod (rd 0) (cst (.int 100))) (cst (.int 0))) (cmp .Eq (bin .Mod (rd 0) (cst (.int 400))) (cst (.int 0)))))) skip
noncomputable def sem__law_is_long : Sx := (t__law_is_long_0)
noncomputable def Γ__law_time_right : Ctx := ⟨[("deck", .local), ("seconds", .local), ("days", .local), ("rest", .local), ("year", .local), ("month", .local), ("sizes", .local), ("two", .local), ("due", .local), ("_law_pick", .globalImplicit), ("_law_draw", .globalImplicit), ("int", .globalImplicit), ("_law_is_long", .globalImplicit), ("_law_figures", .globalImplicit), ("format_time", .globalImplicit)], [some ("deck", false), some ("seconds", false), some ("days", false), some ("rest", false), some ("year", false), some ("month", false), some ("sizes", false), some ("two", false), some ("due", false)], ["_law_pick", "_law_draw", "int", "_law_is_long", "_law_figures", "format_time"], true⟩
noncomputable def Γ__law_time_right_1 : Ctx := ⟨[(".0", .local), ("number", .local), ("_law_figures", .globalImplicit)], [some ("number", false)], ["_law_figures"], false⟩
noncomputable def b__law_time_right_1 (φ__law_pick φ__law_draw φ__law_is_long φ__law_figures φ_format_time : Spec) : Sx := (seq (putS [2, 4] (tup' (cons' (bin .Sub (bin .Sub (rd 2) (cst (.int 365))) (callP intP (cons' (callF φ__law_is_long (cons' (rd 4) nil')) nil'))) (cons' (bin .Add (rd 4) (cst (.int 1))) nil')))) skip)
noncomputable def w__law_time_right_1 (φ__law_pick φ__law_draw φ__law_is_long φ__law_figures φ_format_time : Spec) : Sx := while' (cmpT .GtE (rd 2) (bin .Add (cst (.int 365)) (callP intP (cons' (callF φ__law_is_long (cons' (rd 4) nil')) nil')))) (b__law_time_right_1 φ__law_pick φ__law_draw φ__law_is_long φ__law_figures φ_format_time)
noncomputable def b__law_time_right_2 (φ__law_pick φ__law_draw φ__law_is_long φ__law_figures φ_format_time : Spec) : Sx := (seq (putS [2, 5] (tup' (cons' (bin .Sub (rd 2) (item (rd 6) (rd 5))) (cons' (bin .Add (rd 5) (cst (.int 1))) nil')))) skip)
noncomputable def w__law_time_right_2 (φ__law_pick φ__law_draw φ__law_is_long φ__law_figures φ_format_time : Spec) : Sx := while' (cmpT .GtE (rd 2) (item (rd 6) (rd 5))) (b__law_time_right_2 φ__law_pick φ__law_draw φ__law_is_long φ__law_figures φ_format_time)
noncomputable def t__law_time_right_7 (φ__law_pick φ__law_draw φ__law_is_long φ__law_figures φ_format_time : Spec) : Sx := seq (ret' (andE (cmp .Eq (callF φ_format_time (cons' (callF φ__law_figures (cons' (rd 1) nil')) nil')) (rd 8)) (cmp .Eq (callF φ_format_time (cons' (callF φ__law_pick (cons' (rd 0) (cons' (lst' (cons' (cst (.byt [])) (cons' (cst (.byt [45, 49])) (cons' (cst (.byt [49, 46, 53])) (cons' (cst (.byt [120])) (cons' (cst (.byt [32, 49])) nil')))))) nil'))) nil')) (cst (.byt []))))) skip
noncomputable def t__law_time_right_6 (φ__law_pick φ__law_draw φ__law_is_long φ__law_figures φ_format_time : Spec) : Sx := seq (put 8 (bin .Add (bin .Add (bin .Add (bin .Add (bin .Add (bin .Add (bin .Add (bin .Add (bin .Add (bin .Add (callF φ__law_figures (cons' (rd 4) nil')) (cst (.byt [45]))) (item (rd 7) (cst (.int 0)))) (cst (.byt [45]))) (item (rd 7) (cst (.int 1)))) (cst (.byt [32]))) (item (rd 7) (cst (.int 2)))) (cst (.byt [58]))) (item (rd 7) (cst (.int 3)))) (cst (.byt [58]))) (item (rd 7) (cst (.int 4))))) (t__law_time_right_7 φ__law_pick φ__law_draw φ__law_is_long φ__law_figures φ_format_time)
noncomputable def t__law_time_right_5 (φ__law_pick φ__law_draw φ__law_is_long φ__law_figures φ_format_time : Spec) : Sx := seq (put 7 (comp' Γ__law_time_right_1 [] (tup' (cons' (bin .Add (rd 5) (cst (.int 1))) (cons' (bin .Add (rd 2) (cst (.int 1))) (cons' (bin .FloorDiv (rd 3) (cst (.int 3600))) (cons' (bin .Mod (bin .FloorDiv (rd 3) (cst (.int 60))) (cst (.int 60))) (cons' (bin .Mod (rd 3) (cst (.int 60))) nil')))))) (tN 0) (tt true) (slc (callF φ__law_figures (cons' (bin .Add (cst (.int 100)) (rd 0)) nil')) (pI (cst (.int 1))) pN))) (t__law_time_right_6 φ__law_pick φ__law_draw φ__law_is_long φ__law_figures φ_format_time)
noncomputable def t__law_time_right_4 (φ__law_pick φ__law_draw φ__law_is_long φ__law_figures φ_format_time : Spec) : Sx := seq (w__law_time_right_2 φ__law_pick φ__law_draw φ__law_is_long φ__law_figures φ_format_time) (t__law_time_right_5 φ__law_pick φ__law_draw φ__law_is_long φ__law_figures φ_format_time)
noncomputable def t__law_time_right_3 (φ__law_pick φ__law_draw φ__law_is_long φ__law_figures φ_format_time : Spec) : Sx := seq (put 6 (lst' (cons' (cst (.int 31)) (cons' (ite' (vB (callF φ__law_is_long (cons' (rd 4) nil'))) (cst (.int 29)) (cst (.int 28))) (cons' (cst (.int 31)) (cons' (cst (.int 30)) (cons' (cst (.int 31)) (cons' (cst (.int 30)) (cons' (cst (.int 31)) (cons' (cst (.int 31)) (cons' (cst (.int 30)) (cons' (cst (.int 31)) (cons' (cst (.int 30)) (cons' (cst (.int 31)) nil')))))))))))))) (t__law_time_right_4 φ__law_pick φ__law_draw φ__law_is_long φ__law_figures φ_format_time)
noncomputable def t__law_time_right_2 (φ__law_pick φ__law_draw φ__law_is_long φ__law_figures φ_format_time : Spec) : Sx := seq (w__law_time_right_1 φ__law_pick φ__law_draw φ__law_is_long φ__law_figures φ_format_time) (t__law_time_right_3 φ__law_pick φ__law_draw φ__law_is_long φ__law_figures φ_format_time)
noncomputable def t__law_time_right_1 (φ__law_pick φ__law_draw φ__law_is_long φ__law_figures φ_format_time : Spec) : Sx := seq (putT (tup' (cons' (bin .FloorDiv (rd 1) (cst (.int 86400))) (cons' (bin .Mod (rd 1) (cst (.int 86400))) (cons' (cst (.int 1970)) (cons' (cst (.int 0)) nil'))))) (tT 4 (tCons (tN 2) (tCons (tN 3) (tCons (tN 4) (tCons (tN 5) tNil)))))) (t__law_time_right_2 φ__law_pick φ__law_draw φ__law_is_long φ__law_figures φ_format_time)
noncomputable def t__law_time_right_0 (φ__law_pick φ__law_draw φ__law_is_long φ__law_figures φ_format_time : Spec) : Sx := seq (put 1 (bin .Add (callF φ__law_pick (cons' (rd 0) (cons' (lst' (cons' (cst (.int 0)) (cons' (cst (.int 59)) (cons' (cst (.int 86399)) (cons' (cst (.int 86400)) (cons' (cst (.int 951782399)) (cons' (cst (.int 951782400)) (cons' (cst (.int 1709251199)) (cons' (cst (.int 4102444800)) nil'))))))))) nil'))) (bin .Mult (callF φ__law_draw (cons' (rd 0) (cons' (cst (.int 3)) nil'))) (cst (.int 86399))))) (t__law_time_right_1 φ__law_pick φ__law_draw φ__law_is_long φ__law_figures φ_format_time)
noncomputable def sem__law_time_right (φ__law_pick φ__law_draw φ__law_is_long φ__law_figures φ_format_time : Spec) : Sx := (t__law_time_right_0 φ__law_pick φ__law_draw φ__law_is_long φ__law_figures φ_format_time)
noncomputable def Γ__law_fits : Ctx := ⟨[("pattern", .cell), ("octets", .cell), ("range", .globalImplicit), ("len", .globalImplicit), ("_law_fits", .globalImplicit)], [some ("pattern", true), some ("octets", true)], ["range", "len", "_law_fits"], true⟩
noncomputable def Γ__law_fits_1 : Ctx := ⟨[(".0", .local), ("k", .local), ("_law_fits", .globalImplicit), ("octets", .cell), ("pattern", .cell)], [some ("octets", true), some ("pattern", true), some ("k", false)], ["_law_fits"], false⟩
noncomputable def t__law_fits_2 (φ__law_fits : Spec) : Sx := seq (ret' (andE (cmp .NotEq (rd 1) (cst (.byt []))) (andE (cmp .In (slc (rd 0) pN (pI (cst (.int 1)))) (tup' (cons' (cst (.byt [63])) (cons' (slc (rd 1) pN (pI (cst (.int 1)))) nil')))) (callF φ__law_fits (cons' (slc (rd 0) (pI (cst (.int 1))) pN) (cons' (slc (rd 1) (pI (cst (.int 1))) pN) nil')))))) skip
noncomputable def t__law_fits_1 (φ__law_fits : Spec) : Sx := seq (iff' (cmpT .Eq (slc (rd 0) pN (pI (cst (.int 1)))) (cst (.byt [42]))) (seq (ret' (cmp .NotEq (comp' Γ__law_fits_1 [1, 0] (callP rangeP (cons' (bin .Add (callP lenP (cons' (rd 1) nil')) (cst (.int 1))) nil')) (tN 2) (vB (callF φ__law_fits (cons' (slc (rd 1) (pI (cst (.int 1))) pN) (cons' (slc (rd 0) (pI (rd 2)) pN) nil')))) (rd 2)) (lst' nil'))) skip) skip) (t__law_fits_2 φ__law_fits)
noncomputable def t__law_fits_0 (φ__law_fits : Spec) : Sx := seq (iff' (cmpT .Eq (rd 0) (cst (.byt []))) (seq (ret' (cmp .Eq (rd 1) (cst (.byt [])))) skip) skip) (t__law_fits_1 φ__law_fits)
noncomputable def sem__law_fits (φ__law_fits : Spec) : Sx := (t__law_fits_0 φ__law_fits)
noncomputable def Γ__law_fits_right : Ctx := ⟨[("deck", .cell), ("pattern", .local), ("octets", .local), ("range", .globalImplicit), ("_law_draw", .globalImplicit), ("format_fits", .globalImplicit), ("_law_fits", .globalImplicit)], [some ("deck", true), some ("pattern", false), some ("octets", false)], ["range", "_law_draw", "format_fits", "_law_fits"], true⟩
noncomputable def Γ__law_fits_right_1 : Ctx := ⟨[(".0", .local), ("k", .local), ("_law_pick", .globalImplicit), ("deck", .cell)], [some ("deck", true), some ("k", false)], ["_law_pick"], false⟩
noncomputable def Γ__law_fits_right_2 : Ctx := ⟨[(".0", .local), ("k", .local), ("_law_pick", .globalImplicit), ("deck", .cell)], [some ("deck", true), some ("k", false)], ["_law_pick"], false⟩
noncomputable def t__law_fits_right_2 (φ__law_draw φ__law_pick φ_format_fits φ__law_fits : Spec) : Sx := seq (ret' (cmp .Eq (ite' (vB (callF φ_format_fits (cons' (rd 1) (cons' (rd 2) nil')))) (cst (.bool true)) (cst (.bool false))) (callF φ__law_fits (cons' (rd 1) (cons' (rd 2) nil'))))) skip
noncomputable def t__law_fits_right_1 (φ__law_draw φ__law_pick φ_format_fits φ__law_fits : Spec) : Sx := seq (put 2 (meth joinP (cst (.byt [])) (cons' (comp' Γ__law_fits_right_2 [0] (callP rangeP (cons' (callF φ__law_draw (cons' (rd 0) (cons' (cst (.int 6)) nil'))) nil')) (tN 1) (tt true) (callF φ__law_pick (cons' (rd 0) (cons' (lst' (cons' (cst (.byt [97])) (cons' (cst (.byt [98])) (cons' (cst (.byt [91])) (cons' (cst (.byt [42])) nil'))))) nil')))) nil'))) (t__law_fits_right_2 φ__law_draw φ__law_pick φ_format_fits φ__law_fits)
noncomputable def t__law_fits_right_0 (φ__law_draw φ__law_pick φ_format_fits φ__law_fits : Spec) : Sx := seq (put 1 (meth joinP (cst (.byt [])) (cons' (comp' Γ__law_fits_right_1 [0] (callP rangeP (cons' (callF φ__law_draw (cons' (rd 0) (cons' (cst (.int 6)) nil'))) nil')) (tN 1) (tt true) (callF φ__law_pick (cons' (rd 0) (cons' (lst' (cons' (cst (.byt [42])) (cons' (cst (.byt [97])) (cons' (cst (.byt [63])) (cons' (cst (.byt [98])) (cons' (cst (.byt [91])) nil')))))) nil')))) nil'))) (t__law_fits_right_1 φ__law_draw φ__law_pick φ_format_fits φ__law_fits)
noncomputable def sem__law_fits_right (φ__law_draw φ__law_pick φ_format_fits φ__law_fits : Spec) : Sx := (t__law_fits_right_0 φ__law_draw φ__law_pick φ_format_fits φ__law_fits)
noncomputable def Γ__law_replaced_right : Ctx := ⟨[("deck", .cell), ("octets", .local), ("text", .local), ("other", .local), ("letters", .local), ("found", .local), ("at", .local), ("here", .local), ("is_there", .local), ("range", .globalImplicit), ("_law_draw", .globalImplicit), ("_law_pick", .globalImplicit), ("len", .globalImplicit), ("bytes", .globalImplicit), ("format_replaced", .globalImplicit)], [some ("deck", true), some ("octets", false), some ("text", false), some ("other", false), some ("letters", false), some ("found", false), some ("at", false), some ("here", false), some ("is_there", false)], ["range", "_law_draw", "_law_pick", "len", "bytes", "format_replaced"], true⟩
noncomputable def Γ__law_replaced_right_1 : Ctx := ⟨[(".0", .local), ("k", .local), ("_law_pick", .globalImplicit), ("deck", .cell)], [some ("deck", true), some ("k", false)], ["_law_pick"], false⟩
noncomputable def Γ__law_replaced_right_2 : Ctx := ⟨[(".0", .local), ("sign", .local)], [some ("sign", false)], [], false⟩
noncomputable def b__law_replaced_right_1 (φ__law_draw φ__law_pick φ_format_replaced : Spec) : Sx := (seq (put 7 (slc (rd 1) (pI (rd 6)) (pI (bin .Add (rd 6) (callP lenP (cons' (rd 2) nil')))))) (seq (put 7 (ite' (cmpT .Eq (rd 4) (cst (.byt [105]))) (callP bytesP (cons' (comp' Γ__law_replaced_right_2 [] (rd 7) (tN 0) (tt true) (ite' (cmp2T .LtE .LtE (cst (.int 65)) (rd 0) (cst (.int 90))) (bin .Add (rd 0) (cst (.int 32))) (rd 0))) nil')) (rd 7))) (seq (put 8 (andE (cmp .NotEq (rd 2) (cst (.byt []))) (cmp .Eq (rd 7) (rd 2)))) (seq (putS [5, 6] (tup' (cons' (bin .Add (rd 5) (ite' (vB (rd 8)) (rd 3) (slc (rd 1) (pI (rd 6)) (pI (bin .Add (rd 6) (cst (.int 1))))))) (cons' (bin .Add (rd 6) (ite' (vB (rd 8)) (callP lenP (cons' (rd 2) nil')) (cst (.int 1)))) nil')))) skip))))
noncomputable def w__law_replaced_right_1 (φ__law_draw φ__law_pick φ_format_replaced : Spec) : Sx := while' (cmpT .Lt (rd 6) (callP lenP (cons' (rd 1) nil'))) (b__law_replaced_right_1 φ__law_draw φ__law_pick φ_format_replaced)
noncomputable def t__law_replaced_right_4 (φ__law_draw φ__law_pick φ_format_replaced : Spec) : Sx := seq (ret' (cmp .Eq (callF φ_format_replaced (cons' (rd 1) (cons' (bin .Add (lst' (cons' (rd 2) (cons' (rd 3) nil'))) (ite' (cmpT .IsNot (rd 4) (cst .none)) (lst' (cons' (rd 4) nil')) (lst' nil'))) nil'))) (rd 5))) skip
noncomputable def t__law_replaced_right_3 (φ__law_draw φ__law_pick φ_format_replaced : Spec) : Sx := seq (w__law_replaced_right_1 φ__law_draw φ__law_pick φ_format_replaced) (t__law_replaced_right_4 φ__law_draw φ__law_pick φ_format_replaced)
noncomputable def t__law_replaced_right_2 (φ__law_draw φ__law_pick φ_format_replaced : Spec) : Sx := seq (putT (tup' (cons' (cst (.byt [])) (cons' (cst (.int 0)) nil'))) (tT 2 (tCons (tN 5) (tCons (tN 6) tNil)))) (t__law_replaced_right_3 φ__law_draw φ__law_pick φ_format_replaced)
noncomputable def t__law_replaced_right_1 (φ__law_draw φ__law_pick φ_format_replaced : Spec) : Sx := seq (putS [2, 3, 4] (tup' (cons' (callF φ__law_pick (cons' (rd 0) (cons' (lst' (cons' (cst (.byt [97])) (cons' (cst (.byt [97, 98])) (cons' (cst (.byt [97, 97])) (cons' (cst (.byt [])) nil'))))) nil'))) (cons' (callF φ__law_pick (cons' (rd 0) (cons' (lst' (cons' (cst (.byt [])) (cons' (cst (.byt [120])) (cons' (cst (.byt [97, 97, 98])) nil')))) nil'))) (cons' (callF φ__law_pick (cons' (rd 0) (cons' (lst' (cons' (cst .none) (cons' (cst (.byt [105])) (cons' (cst (.byt [103])) nil')))) nil'))) nil'))))) (t__law_replaced_right_2 φ__law_draw φ__law_pick φ_format_replaced)
noncomputable def t__law_replaced_right_0 (φ__law_draw φ__law_pick φ_format_replaced : Spec) : Sx := seq (put 1 (meth joinP (cst (.byt [])) (cons' (comp' Γ__law_replaced_right_1 [0] (callP rangeP (cons' (callF φ__law_draw (cons' (rd 0) (cons' (cst (.int 6)) nil'))) nil')) (tN 1) (tt true) (callF φ__law_pick (cons' (rd 0) (cons' (lst' (cons' (cst (.byt [97])) (cons' (cst (.byt [65])) (cons' (cst (.byt [98])) (cons' (cst (.byt [97, 98])) nil'))))) nil')))) nil'))) (t__law_replaced_right_1 φ__law_draw φ__law_pick φ_format_replaced)
noncomputable def sem__law_replaced_right (φ__law_draw φ__law_pick φ_format_replaced : Spec) : Sx := (t__law_replaced_right_0 φ__law_draw φ__law_pick φ_format_replaced)
noncomputable def Γ__law_cut : Ctx := ⟨[("pieces", .cell), ("most", .local), ("is_from_end", .local), ("signs", .local), ("kept", .cell), ("range", .globalImplicit), ("len", .globalImplicit), ("max", .globalImplicit)], [some ("pieces", true), some ("most", false), some ("is_from_end", false), some ("signs", false), some ("kept", true)], ["range", "len", "max"], true⟩
noncomputable def Γ__law_cut_1 : Ctx := ⟨[(".0", .local), ("k", .local), ("pieces", .cell)], [some ("pieces", true), some ("k", false)], [], false⟩
noncomputable def Γ__law_cut_2 : Ctx := ⟨[(".0", .local), ("k", .local), ("kept", .cell), ("pieces", .cell)], [some ("kept", true), some ("pieces", true), some ("k", false)], [], false⟩
noncomputable def t__law_cut_2 : Sx := seq (ret' (meth joinP (cst (.byt [])) (cons' (comp' Γ__law_cut_2 [4, 0] (callP rangeP (cons' (callP lenP (cons' (rd 0) nil')) nil')) (tN 2) (orT (vB (item (item (rd 1) (rd 2)) (cst (.int 1)))) (orT (cmpT .In (rd 2) (rd 0)) (tt false))) (item (item (rd 1) (rd 2)) (cst (.int 0)))) nil'))) skip
noncomputable def t__law_cut_1 : Sx := seq (put 4 (ite' (vB (rd 2)) (slc (rd 3) (pI (callP maxP (cons' (cst (.int 0)) (cons' (bin .Sub (callP lenP (cons' (rd 3) nil')) (rd 1)) nil')))) pN) (slc (rd 3) pN (pI (rd 1))))) (t__law_cut_2)
noncomputable def t__law_cut_0 : Sx := seq (put 3 (comp' Γ__law_cut_1 [0] (callP rangeP (cons' (callP lenP (cons' (rd 0) nil')) nil')) (tN 1) (notT (vB (item (item (rd 0) (rd 1)) (cst (.int 1))))) (rd 1))) (t__law_cut_1)
noncomputable def sem__law_cut : Sx := (t__law_cut_0)
noncomputable def Γ__law_cut_right : Ctx := ⟨[("deck", .cell), ("menu", .cell), ("pieces", .local), ("octets", .local), ("wide", .local), ("number", .local), ("sign", .local), ("due", .local), ("part", .local), ("gone", .local), ("told", .local), ("blank", .local), ("size", .local), ("is_from_end", .local), ("range", .globalImplicit), ("_law_draw", .globalImplicit), ("len", .globalImplicit), ("_law_pick", .globalImplicit), ("format_width", .globalImplicit), ("abs", .globalImplicit), ("_law_cut", .globalImplicit), ("_law_figures", .globalImplicit), ("format_limited", .globalImplicit), ("format_filled", .globalImplicit), ("format_cut", .globalImplicit)], [some ("deck", true), some ("menu", true), some ("pieces", false), some ("octets", false), some ("wide", false), some ("number", false), some ("sign", false), some ("due", false), some ("part", false), some ("gone", false), some ("told", false), some ("blank", false), some ("size", false), some ("is_from_end", false)], ["range", "_law_draw", "len", "_law_pick", "format_width", "abs", "_law_cut", "_law_figures", "format_limited", "format_filled", "format_cut"], true⟩
noncomputable def Γ__law_cut_right_1 : Ctx := ⟨[(".0", .local), ("k", .local), ("_law_pick", .globalImplicit), ("deck", .cell), ("menu", .cell)], [some ("deck", true), some ("menu", true), some ("k", false)], ["_law_pick"], false⟩
noncomputable def Γ__law_cut_right_2 : Ctx := ⟨[(".0", .local), ("one", .local)], [some ("one", false)], [], false⟩
noncomputable def Γ__law_cut_right_3 : Ctx := ⟨[(".0", .local), ("one", .local)], [some ("one", false)], [], false⟩
noncomputable def c__law_cut_right_1 (φ__law_draw φ__law_pick φ_format_width φ__law_cut φ__law_figures φ_format_limited φ_format_filled φ_format_cut : Spec) : Sx := (seq (put 8 (callF φ__law_cut (cons' (rd 2) (cons' (callP absP (cons' (rd 5) nil')) (cons' (cmp .Lt (rd 5) (cst (.int 0))) nil'))))) (seq (put 9 (ite' (cmpT .IsNot (rd 6) (cst .none)) (rd 6) (cst (.byt [])))) (seq (put 7 (ite' (cmpT .Lt (rd 5) (cst (.int 0))) (bin .Add (rd 9) (rd 8)) (bin .Add (rd 8) (rd 9)))) skip)))
noncomputable def t__law_cut_right_13 (φ__law_draw φ__law_pick φ_format_width φ__law_cut φ__law_figures φ_format_limited φ_format_filled φ_format_cut : Spec) : Sx := seq (ret' (cmp .Eq (callF φ_format_cut (cons' (rd 3) (cons' (callP absP (cons' (rd 5) nil')) (cons' (rd 13) nil')))) (callF φ__law_cut (cons' (rd 2) (cons' (callP absP (cons' (rd 5) nil')) (cons' (rd 13) nil')))))) skip
noncomputable def t__law_cut_right_12 (φ__law_draw φ__law_pick φ_format_width φ__law_cut φ__law_figures φ_format_limited φ_format_filled φ_format_cut : Spec) : Sx := seq (put 13 (cmp .Eq (callF φ__law_draw (cons' (rd 0) (cons' (cst (.int 2)) nil'))) (cst (.int 0)))) (t__law_cut_right_13 φ__law_draw φ__law_pick φ_format_width φ__law_cut φ__law_figures φ_format_limited φ_format_filled φ_format_cut)
noncomputable def t__law_cut_right_11 (φ__law_draw φ__law_pick φ_format_width φ__law_cut φ__law_figures φ_format_limited φ_format_filled φ_format_cut : Spec) : Sx := seq (iff' (orT (cmpT .NotEq (callF φ_format_filled (cons' (rd 3) (cons' (lst' (cons' (callF φ__law_figures (cons' (rd 12) nil')) nil')) nil'))) (bin .Add (rd 3) (rd 11))) (orT (cmpT .NotEq (callF φ_format_filled (cons' (rd 3) (cons' (lst' (cons' (callF φ__law_figures (cons' (bin .Sub (cst (.int 0)) (rd 12)) nil')) nil')) nil'))) (bin .Add (rd 11) (rd 3))) (tt false))) (seq (ret' (cst (.bool false))) skip) skip) (t__law_cut_right_12 φ__law_draw φ__law_pick φ_format_width φ__law_cut φ__law_figures φ_format_limited φ_format_filled φ_format_cut)
noncomputable def t__law_cut_right_10 (φ__law_draw φ__law_pick φ_format_width φ__law_cut φ__law_figures φ_format_limited φ_format_filled φ_format_cut : Spec) : Sx := seq (put 12 (bin .Add (callP absP (cons' (rd 5) nil')) (cst (.int 2)))) (t__law_cut_right_11 φ__law_draw φ__law_pick φ_format_width φ__law_cut φ__law_figures φ_format_limited φ_format_filled φ_format_cut)
noncomputable def t__law_cut_right_9 (φ__law_draw φ__law_pick φ_format_width φ__law_cut φ__law_figures φ_format_limited φ_format_filled φ_format_cut : Spec) : Sx := seq (put 11 (bin .Mult (cst (.byt [32])) (bin .Sub (bin .Add (callP absP (cons' (rd 5) nil')) (cst (.int 2))) (rd 4)))) (t__law_cut_right_10 φ__law_draw φ__law_pick φ_format_width φ__law_cut φ__law_figures φ_format_limited φ_format_filled φ_format_cut)
noncomputable def t__law_cut_right_8 (φ__law_draw φ__law_pick φ_format_width φ__law_cut φ__law_figures φ_format_limited φ_format_filled φ_format_cut : Spec) : Sx := seq (iff' (orT (cmpT .NotEq (callF φ_format_limited (cons' (rd 3) (cons' (rd 10) nil'))) (rd 7)) (orT (cmpT .NotEq (callF φ_format_limited (cons' (rd 3) (cons' (lst' nil') nil'))) (rd 3)) (orT (cmpT .NotEq (callF φ_format_limited (cons' (rd 3) (cons' (lst' (cons' (cst (.byt [120])) nil')) nil'))) (rd 3)) (tt false)))) (seq (ret' (cst (.bool false))) skip) skip) (t__law_cut_right_9 φ__law_draw φ__law_pick φ_format_width φ__law_cut φ__law_figures φ_format_limited φ_format_filled φ_format_cut)
noncomputable def t__law_cut_right_7 (φ__law_draw φ__law_pick φ_format_width φ__law_cut φ__law_figures φ_format_limited φ_format_filled φ_format_cut : Spec) : Sx := seq (put 10 (bin .Add (lst' (cons' (callF φ__law_figures (cons' (rd 5) nil')) nil')) (ite' (cmpT .IsNot (rd 6) (cst .none)) (lst' (cons' (rd 6) nil')) (lst' nil')))) (t__law_cut_right_8 φ__law_draw φ__law_pick φ_format_width φ__law_cut φ__law_figures φ_format_limited φ_format_filled φ_format_cut)
noncomputable def t__law_cut_right_6 (φ__law_draw φ__law_pick φ_format_width φ__law_cut φ__law_figures φ_format_limited φ_format_filled φ_format_cut : Spec) : Sx := seq (iff' (cmp2T .Gt .Gt (rd 4) (callP absP (cons' (rd 5) nil')) (cst (.int 0))) (c__law_cut_right_1 φ__law_draw φ__law_pick φ_format_width φ__law_cut φ__law_figures φ_format_limited φ_format_filled φ_format_cut) skip) (t__law_cut_right_7 φ__law_draw φ__law_pick φ_format_width φ__law_cut φ__law_figures φ_format_limited φ_format_filled φ_format_cut)
noncomputable def t__law_cut_right_5 (φ__law_draw φ__law_pick φ_format_width φ__law_cut φ__law_figures φ_format_limited φ_format_filled φ_format_cut : Spec) : Sx := seq (put 7 (rd 3)) (t__law_cut_right_6 φ__law_draw φ__law_pick φ_format_width φ__law_cut φ__law_figures φ_format_limited φ_format_filled φ_format_cut)
noncomputable def t__law_cut_right_4 (φ__law_draw φ__law_pick φ_format_width φ__law_cut φ__law_figures φ_format_limited φ_format_filled φ_format_cut : Spec) : Sx := seq (iff' (cmpT .NotEq (callF φ_format_width (cons' (rd 3) nil')) (rd 4)) (seq (ret' (cst (.bool false))) skip) skip) (t__law_cut_right_5 φ__law_draw φ__law_pick φ_format_width φ__law_cut φ__law_figures φ_format_limited φ_format_filled φ_format_cut)
noncomputable def t__law_cut_right_3 (φ__law_draw φ__law_pick φ_format_width φ__law_cut φ__law_figures φ_format_limited φ_format_filled φ_format_cut : Spec) : Sx := seq (putS [5, 6] (tup' (cons' (bin .Sub (callF φ__law_draw (cons' (rd 0) (cons' (cst (.int 9)) nil'))) (cst (.int 4))) (cons' (callF φ__law_pick (cons' (rd 0) (cons' (lst' (cons' (cst .none) (cons' (cst (.byt [46, 46])) (cons' (cst (.byt [195, 169])) nil')))) nil'))) nil')))) (t__law_cut_right_4 φ__law_draw φ__law_pick φ_format_width φ__law_cut φ__law_figures φ_format_limited φ_format_filled φ_format_cut)
noncomputable def t__law_cut_right_2 (φ__law_draw φ__law_pick φ_format_width φ__law_cut φ__law_figures φ_format_limited φ_format_filled φ_format_cut : Spec) : Sx := seq (putS [3, 4] (tup' (cons' (meth joinP (cst (.byt [])) (cons' (comp' Γ__law_cut_right_2 [] (rd 2) (tN 0) (tt true) (item (rd 0) (cst (.int 0)))) nil')) (cons' (callP lenP (cons' (comp' Γ__law_cut_right_3 [] (rd 2) (tN 0) (notT (vB (item (rd 0) (cst (.int 1))))) (rd 0)) nil')) nil')))) (t__law_cut_right_3 φ__law_draw φ__law_pick φ_format_width φ__law_cut φ__law_figures φ_format_limited φ_format_filled φ_format_cut)
noncomputable def t__law_cut_right_1 (φ__law_draw φ__law_pick φ_format_width φ__law_cut φ__law_figures φ_format_limited φ_format_filled φ_format_cut : Spec) : Sx := seq (put 2 (comp' Γ__law_cut_right_1 [0, 1] (callP rangeP (cons' (callF φ__law_draw (cons' (rd 0) (cons' (cst (.int 7)) nil'))) nil')) (tN 2) (tt true) (callF φ__law_pick (cons' (rd 0) (cons' (rd 1) nil'))))) (t__law_cut_right_2 φ__law_draw φ__law_pick φ_format_width φ__law_cut φ__law_figures φ_format_limited φ_format_filled φ_format_cut)
noncomputable def t__law_cut_right_0 (φ__law_draw φ__law_pick φ_format_width φ__law_cut φ__law_figures φ_format_limited φ_format_filled φ_format_cut : Spec) : Sx := seq (put 1 (lst' (cons' (tup' (cons' (cst (.byt [97])) (cons' (cst (.bool false)) nil'))) (cons' (tup' (cons' (cst (.byt [32])) (cons' (cst (.bool false)) nil'))) (cons' (tup' (cons' (cst (.byt [195, 169])) (cons' (cst (.bool false)) nil'))) (cons' (tup' (cons' (cst (.byt [35, 91, 102, 103, 61, 114, 101, 100, 93])) (cons' (cst (.bool true)) nil'))) (cons' (tup' (cons' (cst (.byt [98])) (cons' (cst (.bool false)) nil'))) (cons' (tup' (cons' (cst (.byt [35, 91, 93])) (cons' (cst (.bool true)) nil'))) nil')))))))) (t__law_cut_right_1 φ__law_draw φ__law_pick φ_format_width φ__law_cut φ__law_figures φ_format_limited φ_format_filled φ_format_cut)
noncomputable def sem__law_cut_right (φ__law_draw φ__law_pick φ_format_width φ__law_cut φ__law_figures φ_format_limited φ_format_filled φ_format_cut : Spec) : Sx := (t__law_cut_right_0 φ__law_draw φ__law_pick φ_format_width φ__law_cut φ__law_figures φ_format_limited φ_format_filled φ_format_cut)
noncomputable def Γ__law_quoted_right : Ctx := ⟨[("deck", .cell), ("special", .cell), ("octets", .local), ("found", .local), ("doubled", .local), ("bytes", .globalImplicit), ("range", .globalImplicit), ("_law_draw", .globalImplicit), ("format_quoted", .globalImplicit)], [some ("deck", true), some ("special", true), some ("octets", false), some ("found", false), some ("doubled", false)], ["bytes", "range", "_law_draw", "format_quoted"], true⟩
noncomputable def Γ__law_quoted_right_1 : Ctx := ⟨[(".0", .local), ("k", .local), ("_law_pick", .globalImplicit), ("list", .globalImplicit), ("deck", .cell), ("special", .cell)], [some ("deck", true), some ("special", true), some ("k", false)], ["_law_pick", "list"], false⟩
noncomputable def Γ__law_quoted_right_2 : Ctx := ⟨[(".0", .local), ("sign", .local), ("bytes", .globalImplicit), ("special", .cell)], [some ("special", true), some ("sign", false)], ["bytes"], false⟩
noncomputable def Γ__law_quoted_right_3 : Ctx := ⟨[(".0", .local), ("sign", .local), ("bytes", .globalImplicit)], [some ("sign", false)], ["bytes"], false⟩
noncomputable def t__law_quoted_right_4 (φ__law_draw φ__law_pick φ_format_quoted : Spec) : Sx := seq (ret' (andE (cmp .Eq (callF φ_format_quoted (cons' (rd 2) (cons' (cst (.bool false)) nil'))) (rd 3)) (cmp .Eq (callF φ_format_quoted (cons' (rd 2) (cons' (cst (.bool true)) nil'))) (rd 4)))) skip
noncomputable def t__law_quoted_right_3 (φ__law_draw φ__law_pick φ_format_quoted : Spec) : Sx := seq (put 4 (meth joinP (cst (.byt [])) (cons' (comp' Γ__law_quoted_right_3 [] (rd 2) (tN 0) (tt true) (bin .Mult (callP bytesP (cons' (lst' (cons' (rd 0) nil')) nil')) (ite' (cmpT .Eq (rd 0) (cst (.int 35))) (cst (.int 2)) (cst (.int 1))))) nil'))) (t__law_quoted_right_4 φ__law_draw φ__law_pick φ_format_quoted)
noncomputable def t__law_quoted_right_2 (φ__law_draw φ__law_pick φ_format_quoted : Spec) : Sx := seq (put 3 (meth joinP (cst (.byt [])) (cons' (comp' Γ__law_quoted_right_2 [1] (rd 2) (tN 1) (tt true) (bin .Add (ite' (cmpT .In (rd 1) (rd 0)) (cst (.byt [92])) (cst (.byt []))) (callP bytesP (cons' (lst' (cons' (rd 1) nil')) nil')))) nil'))) (t__law_quoted_right_3 φ__law_draw φ__law_pick φ_format_quoted)
noncomputable def t__law_quoted_right_1 (φ__law_draw φ__law_pick φ_format_quoted : Spec) : Sx := seq (put 2 (callP bytesP (cons' (comp' Γ__law_quoted_right_1 [0, 1] (callP rangeP (cons' (callF φ__law_draw (cons' (rd 0) (cons' (cst (.int 7)) nil'))) nil')) (tN 2) (tt true) (callF φ__law_pick (cons' (rd 0) (cons' (bin .Add (callP listP (cons' (rd 1) nil')) (lst' (cons' (cst (.int 97)) (cons' (cst (.int 65)) (cons' (cst (.int 48)) (cons' (cst (.int 45)) (cons' (cst (.int 46)) (cons' (cst (.int 47)) (cons' (cst (.int 93)) (cons' (cst (.int 195)) (cons' (cst (.int 10)) (cons' (cst (.int 58)) nil')))))))))))) nil')))) nil'))) (t__law_quoted_right_2 φ__law_draw φ__law_pick φ_format_quoted)
noncomputable def t__law_quoted_right_0 (φ__law_draw φ__law_pick φ_format_quoted : Spec) : Sx := seq (put 1 (cst (.byt [32, 9, 124, 38, 59, 60, 62, 40, 41, 36, 96, 34, 39, 42, 63, 91, 35, 61, 37, 92, 126, 33, 123, 125]))) (t__law_quoted_right_1 φ__law_draw φ__law_pick φ_format_quoted)
noncomputable def sem__law_quoted_right (φ__law_draw φ__law_pick φ_format_quoted : Spec) : Sx := (t__law_quoted_right_0 φ__law_draw φ__law_pick φ_format_quoted)
noncomputable def Γ_law : Ctx := ⟨[("script", .local), ("deck", .local), ("way", .local), ("_law_deck", .globalImplicit), ("_law_draw", .globalImplicit), ("_law_reckoned_right", .globalImplicit), ("_law_time_right", .globalImplicit), ("_law_fits_right", .globalImplicit), ("_law_replaced_right", .globalImplicit), ("_law_cut_right", .globalImplicit), ("_law_quoted_right", .globalImplicit)], [some ("script", false), some ("deck", false), some ("way", false)], ["_law_deck", "_law_draw", "_law_reckoned_right", "_law_time_right", "_law_fits_right", "_law_replaced_right", "_law_cut_right", "_law_quoted_right"], true⟩
noncomputable def t_law_6 (φ__law_deck φ__law_draw φ__law_reckoned_right φ__law_time_right φ__law_fits_right φ__law_replaced_right φ__law_cut_right φ__law_quoted_right : Spec) : Sx := seq (ret' (ite' (cmpT .Eq (rd 2) (cst (.int 4))) (callF φ__law_cut_right (cons' (rd 1) nil')) (callF φ__law_quoted_right (cons' (rd 1) nil')))) skip
noncomputable def t_law_5 (φ__law_deck φ__law_draw φ__law_reckoned_right φ__law_time_right φ__law_fits_right φ__law_replaced_right φ__law_cut_right φ__law_quoted_right : Spec) : Sx := seq (iff' (cmpT .Eq (rd 2) (cst (.int 3))) (seq (ret' (callF φ__law_replaced_right (cons' (rd 1) nil'))) skip) skip) (t_law_6 φ__law_deck φ__law_draw φ__law_reckoned_right φ__law_time_right φ__law_fits_right φ__law_replaced_right φ__law_cut_right φ__law_quoted_right)
noncomputable def t_law_4 (φ__law_deck φ__law_draw φ__law_reckoned_right φ__law_time_right φ__law_fits_right φ__law_replaced_right φ__law_cut_right φ__law_quoted_right : Spec) : Sx := seq (iff' (cmpT .Eq (rd 2) (cst (.int 2))) (seq (ret' (callF φ__law_fits_right (cons' (rd 1) nil'))) skip) skip) (t_law_5 φ__law_deck φ__law_draw φ__law_reckoned_right φ__law_time_right φ__law_fits_right φ__law_replaced_right φ__law_cut_right φ__law_quoted_right)
noncomputable def t_law_3 (φ__law_deck φ__law_draw φ__law_reckoned_right φ__law_time_right φ__law_fits_right φ__law_replaced_right φ__law_cut_right φ__law_quoted_right : Spec) : Sx := seq (iff' (cmpT .Eq (rd 2) (cst (.int 1))) (seq (ret' (callF φ__law_time_right (cons' (rd 1) nil'))) skip) skip) (t_law_4 φ__law_deck φ__law_draw φ__law_reckoned_right φ__law_time_right φ__law_fits_right φ__law_replaced_right φ__law_cut_right φ__law_quoted_right)
noncomputable def t_law_2 (φ__law_deck φ__law_draw φ__law_reckoned_right φ__law_time_right φ__law_fits_right φ__law_replaced_right φ__law_cut_right φ__law_quoted_right : Spec) : Sx := seq (iff' (cmpT .Eq (rd 2) (cst (.int 0))) (seq (ret' (callF φ__law_reckoned_right (cons' (rd 1) nil'))) skip) skip) (t_law_3 φ__law_deck φ__law_draw φ__law_reckoned_right φ__law_time_right φ__law_fits_right φ__law_replaced_right φ__law_cut_right φ__law_quoted_right)
noncomputable def t_law_1 (φ__law_deck φ__law_draw φ__law_reckoned_right φ__law_time_right φ__law_fits_right φ__law_replaced_right φ__law_cut_right φ__law_quoted_right : Spec) : Sx := seq (put 2 (callF φ__law_draw (cons' (rd 1) (cons' (cst (.int 6)) nil')))) (t_law_2 φ__law_deck φ__law_draw φ__law_reckoned_right φ__law_time_right φ__law_fits_right φ__law_replaced_right φ__law_cut_right φ__law_quoted_right)
noncomputable def t_law_0 (φ__law_deck φ__law_draw φ__law_reckoned_right φ__law_time_right φ__law_fits_right φ__law_replaced_right φ__law_cut_right φ__law_quoted_right : Spec) : Sx := seq (put 1 (callF φ__law_deck (cons' (rd 0) nil'))) (t_law_1 φ__law_deck φ__law_draw φ__law_reckoned_right φ__law_time_right φ__law_fits_right φ__law_replaced_right φ__law_cut_right φ__law_quoted_right)
noncomputable def sem_law (φ__law_deck φ__law_draw φ__law_reckoned_right φ__law_time_right φ__law_fits_right φ__law_replaced_right φ__law_cut_right φ__law_quoted_right : Spec) : Sx := (t_law_0 φ__law_deck φ__law_draw φ__law_reckoned_right φ__law_time_right φ__law_fits_right φ__law_replaced_right φ__law_cut_right φ__law_quoted_right)
end

section
set_option maxRecDepth 100000
set_option maxHeartbeats 4000000

theorem d_decimal_octets {B : Base} {n : Nat} (Z : Glob B)  : ExL B n Γ_decimal_octets (bodyOf 4) (sem_decimal_octets ) :=
  (ExL.cons (Ex.put 1 (Ev.ite (Tst.cmp (Ev.v 0) (Ev.i 0)) (Ev.v 0) (Ev.neg (Ev.v 0)))) (ExL.cons (Ex.put 2 (Ev.ownL (Evs.cons (Ev.bin (Ev.i 48) (Ev.bin (Ev.v 1) (Ev.i 10))) Evs.nil))) (ExL.cons (Ex.put 1 (Ev.bin (Ev.v 1) (Ev.i 10))) (ExL.cons (Ex.while (Tst.cmp (Ev.v 1) (Ev.i 0)) (ExL.cons (Ex.appL 2 (Ev.bin (Ev.i 48) (Ev.bin (Ev.v 1) (Ev.i 10)))) (ExL.cons (Ex.put 1 (Ev.bin (Ev.v 1) (Ev.i 10))) ExL.nil))) (ExL.cons (Ex.ite (Tst.cmp (Ev.v 0) (Ev.i 0)) (ExL.cons (Ex.appL 2 (Ev.i 45)) ExL.nil) ExL.nil) (ExL.cons (Ex.ret (Ev.prim 0 Z.ok Z.bytes prim_bytes (Evs.cons (Ev.rev (Ev.vO 2)) Evs.nil))) ExL.nil))))))
theorem k_decimal_octets : FnOk Γ_decimal_octets 4 "decimal_octets" [("number", false)] := ⟨by intro pm code doc vs h; obtain ⟨a, rfl⟩ := len1 h; rfl, by decide, rfl, rfl, rfl, rfl, rfl, rfl⟩
theorem d_number_of {B : Base} {n : Nat} (Z : Glob B)  : ExL B n Γ_number_of (bodyOf 5) (sem_number_of ) :=
  (ExL.cons (Ex.ite (Tst.cmp (Ev.prim 0 Z.ok Z.len prim_len (Evs.cons (Ev.v 0) Evs.nil)) (Ev.i 0)) (ExL.cons (Ex.ret Ev.none) ExL.nil) ExL.nil) (ExL.cons (Ex.putT (Ev.tup (Evs.cons (Ev.i 0) (Evs.cons (Ev.i 0) Evs.nil))) (Tg.t 2 (Tgs.cons (Tg.name 1) (Tgs.cons (Tg.name 2) Tgs.nil)))) (ExL.cons (Ex.for (Ev.v 0) (Tg.name 3) (ExL.cons (Ex.ite (Tst.not (Tst.cmp2 (Ev.i 48) (Ev.v 3) (Ev.i 57))) (ExL.cons (Ex.ret Ev.none) ExL.nil) ExL.nil) (ExL.cons (Ex.ite (Tst.or (Tst.cmp (Ev.v 2) (Ev.i 0)) (Tst.or (Tst.cmp (Ev.v 3) (Ev.i 48)) Tst.or0)) (ExL.cons (Ex.put 2 (Ev.bin (Ev.v 2) (Ev.i 1))) ExL.nil) ExL.nil) (ExL.cons (Ex.ite (Tst.cmp (Ev.v 2) (Ev.g 1 Z.ok Z.MOST_FIGURES)) (ExL.cons (Ex.put 1 (Ev.bin (Ev.bin (Ev.bin (Ev.i 10) (Ev.v 1)) (Ev.v 3)) (Ev.i 48))) ExL.nil) ExL.nil) ExL.nil)))) (ExL.cons (Ex.ret (Ev.ite (Tst.cmp (Ev.v 2) (Ev.g 1 Z.ok Z.MOST_FIGURES)) (Ev.v 1) (Ev.bin (Ev.bin (Ev.i 10) (Ev.g 1 Z.ok Z.MOST_FIGURES)) (Ev.i 1)))) ExL.nil))))
theorem k_number_of : FnOk Γ_number_of 5 "number_of" [("octets", false)] := ⟨by intro pm code doc vs h; obtain ⟨a, rfl⟩ := len1 h; rfl, by decide, rfl, rfl, rfl, rfl, rfl, rfl⟩
theorem d_sign_lead {B : Base} {n : Nat}  : ExL B n Γ_sign_lead (bodyOf 7) (sem_sign_lead ) :=
  (ExL.cons (Ex.ite (Tst.cmp2 (Ev.i 194) (Ev.v 0) (Ev.i 223)) (ExL.cons (Ex.ret (Ev.tup (Evs.cons (Ev.i 1) (Evs.cons (Ev.bin (Ev.v 0) (Ev.i 31)) (Evs.cons (Ev.i 128) (Evs.cons (Ev.i 191) Evs.nil)))))) ExL.nil) ExL.nil) (ExL.cons (Ex.ite (Tst.cmp2 (Ev.i 224) (Ev.v 0) (Ev.i 239)) (ExL.cons (Ex.ret (Ev.tup (Evs.cons (Ev.i 2) (Evs.cons (Ev.bin (Ev.v 0) (Ev.i 15)) (Evs.cons (Ev.ite (Tst.cmp (Ev.v 0) (Ev.i 224)) (Ev.i 160) (Ev.i 128)) (Evs.cons (Ev.ite (Tst.cmp (Ev.v 0) (Ev.i 237)) (Ev.i 159) (Ev.i 191)) Evs.nil)))))) ExL.nil) ExL.nil) (ExL.cons (Ex.ite (Tst.cmp2 (Ev.i 240) (Ev.v 0) (Ev.i 244)) (ExL.cons (Ex.ret (Ev.tup (Evs.cons (Ev.i 3) (Evs.cons (Ev.bin (Ev.v 0) (Ev.i 7)) (Evs.cons (Ev.ite (Tst.cmp (Ev.v 0) (Ev.i 240)) (Ev.i 144) (Ev.i 128)) (Evs.cons (Ev.ite (Tst.cmp (Ev.v 0) (Ev.i 244)) (Ev.i 143) (Ev.i 191)) Evs.nil)))))) ExL.nil) ExL.nil) (ExL.cons (Ex.ret Ev.none) ExL.nil))))
theorem k_sign_lead : FnOk Γ_sign_lead 7 "sign_lead" [("octet", false)] := ⟨by intro pm code doc vs h; obtain ⟨a, rfl⟩ := len1 h; rfl, by decide, rfl, rfl, rfl, rfl, rfl, rfl⟩
theorem d_format_truth {B : Base} {n : Nat}  : ExL B n Γ_format_truth (bodyOf 15) (sem_format_truth ) :=
  (ExL.cons (Ex.ret (Ev.ite (Tst.val (Ev.v 0)) Ev.byt Ev.byt)) ExL.nil)
theorem k_format_truth : FnOk Γ_format_truth 15 "format_truth" [("truth", false)] := ⟨by intro pm code doc vs h; obtain ⟨a, rfl⟩ := len1 h; rfl, by decide, rfl, rfl, rfl, rfl, rfl, rfl⟩
theorem d_format_compared {B : Base} {n : Nat}  : ExL B n Γ_format_compared (bodyOf 16) (sem_format_compared ) :=
  (ExL.cons (Ex.ite (Tst.cmp (Ev.v 0) Ev.byt) (ExL.cons (Ex.ret (Ev.cmp (Ev.v 1) (Ev.v 2))) ExL.nil) ExL.nil) (ExL.cons (Ex.ite (Tst.cmp (Ev.v 0) Ev.byt) (ExL.cons (Ex.ret (Ev.cmp (Ev.v 1) (Ev.v 2))) ExL.nil) ExL.nil) (ExL.cons (Ex.ite (Tst.cmp (Ev.v 0) Ev.byt) (ExL.cons (Ex.ret (Ev.cmp (Ev.v 1) (Ev.v 2))) ExL.nil) ExL.nil) (ExL.cons (Ex.ite (Tst.cmp (Ev.v 0) Ev.byt) (ExL.cons (Ex.ret (Ev.cmp (Ev.v 1) (Ev.v 2))) ExL.nil) ExL.nil) (ExL.cons (Ex.ret (Ev.ite (Tst.cmp (Ev.v 0) Ev.byt) (Ev.cmp (Ev.v 1) (Ev.v 2)) (Ev.cmp (Ev.v 1) (Ev.v 2)))) ExL.nil)))))
theorem k_format_compared : FnOk Γ_format_compared 16 "format_compared" [("word", false), ("near", false), ("far", false)] := ⟨by intro pm code doc vs h; obtain ⟨a, b, c, rfl⟩ := len3 h; rfl, by decide, rfl, rfl, rfl, rfl, rfl, rfl⟩
theorem d_format_quoted {B : Base} {n : Nat} (Z : Glob B)  : ExL B n Γ_format_quoted (bodyOf 17) (sem_format_quoted ) :=
  (ExL.cons (Ex.put 2 (Ev.prim0 0 Z.ok Z.ba prim_ba)) (ExL.cons (Ex.for (Ev.v 0) (Tg.name 3) (ExL.cons (Ex.ite (Tst.and (Tst.val (Ev.v 1)) (Tst.and (Tst.cmp (Ev.v 3) (Ev.g 1 Z.ok Z.SIGN)) Tst.and0)) (ExL.cons (Ex.appB 2 (Ev.g 1 Z.ok Z.SIGN)) ExL.nil) (ExL.cons (Ex.ite (Tst.and (Tst.not (Tst.val (Ev.v 1))) (Tst.and (Tst.cmp (Ev.v 3) (Ev.g 2 Z.ok Z.SPECIAL)) Tst.and0)) (ExL.cons (Ex.appB 2 (Ev.g 3 Z.ok Z.BACKSLASH)) ExL.nil) ExL.nil) ExL.nil)) (ExL.cons (Ex.appB 2 (Ev.v 3)) ExL.nil))) (ExL.cons (Ex.ret (Ev.prim 4 Z.ok Z.bytes prim_bytesO (Evs.cons (Ev.vO 2) Evs.nil))) ExL.nil)))
theorem k_format_quoted : FnOk Γ_format_quoted 17 "format_quoted" [("octets", false), ("is_for_formats", false)] := ⟨by intro pm code doc vs h; obtain ⟨a, b, rfl⟩ := len2 h; rfl, by decide, rfl, rfl, rfl, rfl, rfl, rfl⟩
theorem d_format_two {B : Base} {n : Nat} (Z : Glob B) {φ_decimal_octets : Spec} (h_decimal_octets : FnN B n "decimal_octets" φ_decimal_octets) : ExL B n Γ_format_two (bodyOf 18) (sem_format_two φ_decimal_octets) :=
  (ExL.cons (Ex.ret (Ev.bin (Ev.call 0 Z.ok h_decimal_octets (Nat.le_refl _) (Evs.cons (Ev.bin (Ev.v 0) (Ev.i 10)) Evs.nil)) (Ev.call 0 Z.ok h_decimal_octets (Nat.le_refl _) (Evs.cons (Ev.bin (Ev.v 0) (Ev.i 10)) Evs.nil)))) ExL.nil)
theorem k_format_two : FnOk Γ_format_two 18 "format_two" [("number", false)] := ⟨by intro pm code doc vs h; obtain ⟨a, rfl⟩ := len1 h; rfl, by decide, rfl, rfl, rfl, rfl, rfl, rfl⟩
theorem d_format_time {B : Base} {n : Nat} (Z : Glob B) {φ_number_of : Spec} (h_number_of : FnN B n "number_of" φ_number_of) {φ_decimal_octets : Spec} (h_decimal_octets : FnN B n "decimal_octets" φ_decimal_octets) {φ_format_two : Spec} (h_format_two : FnN B n "format_two" φ_format_two) : ExL B n Γ_format_time (bodyOf 19) (sem_format_time φ_number_of φ_decimal_octets φ_format_two) :=
  (ExL.cons (Ex.put 1 (Ev.call 0 Z.ok h_number_of (Nat.le_refl _) (Evs.cons (Ev.v 0) Evs.nil))) (ExL.cons (Ex.ite (Tst.cmp (Ev.v 1) Ev.none) (ExL.cons (Ex.ret Ev.byt) ExL.nil) ExL.nil) (ExL.cons (Ex.putS [2, 3] (Ev.tup (Evs.cons (Ev.bin (Ev.v 1) (Ev.g 1 Z.ok Z.DAY)) (Evs.cons (Ev.bin (Ev.v 1) (Ev.g 1 Z.ok Z.DAY)) Evs.nil)))) (ExL.cons (Ex.put 4 (Ev.bin (Ev.v 2) (Ev.i 719468))) (ExL.cons (Ex.put 5 (Ev.bin (Ev.v 4) (Ev.i 146097))) (ExL.cons (Ex.put 6 (Ev.bin (Ev.bin (Ev.bin (Ev.bin (Ev.v 5) (Ev.bin (Ev.v 5) (Ev.i 1460))) (Ev.bin (Ev.v 5) (Ev.i 36524))) (Ev.bin (Ev.v 5) (Ev.i 146096))) (Ev.i 365))) (ExL.cons (Ex.put 7 (Ev.bin (Ev.v 5) (Ev.bin (Ev.bin (Ev.bin (Ev.i 365) (Ev.v 6)) (Ev.bin (Ev.v 6) (Ev.i 4))) (Ev.bin (Ev.v 6) (Ev.i 100))))) (ExL.cons (Ex.put 8 (Ev.bin (Ev.bin (Ev.bin (Ev.i 5) (Ev.v 7)) (Ev.i 2)) (Ev.i 153))) (ExL.cons (Ex.put 9 (Ev.ite (Tst.cmp (Ev.v 8) (Ev.i 10)) (Ev.bin (Ev.v 8) (Ev.i 3)) (Ev.bin (Ev.v 8) (Ev.i 9)))) (ExL.cons (Ex.put 6 (Ev.bin (Ev.bin (Ev.v 6) (Ev.bin (Ev.bin (Ev.v 4) (Ev.i 146097)) (Ev.i 400))) (Ev.ite (Tst.cmp (Ev.v 9) (Ev.i 2)) (Ev.i 1) (Ev.i 0)))) (ExL.cons (Ex.put 10 (Ev.bin (Ev.bin (Ev.bin (Ev.bin (Ev.call 2 Z.ok h_decimal_octets (Nat.le_refl _) (Evs.cons (Ev.v 6) Evs.nil)) Ev.byt) (Ev.call 3 Z.ok h_format_two (Nat.le_refl _) (Evs.cons (Ev.v 9) Evs.nil))) Ev.byt) (Ev.call 3 Z.ok h_format_two (Nat.le_refl _) (Evs.cons (Ev.bin (Ev.bin (Ev.v 7) (Ev.bin (Ev.bin (Ev.bin (Ev.i 153) (Ev.v 8)) (Ev.i 2)) (Ev.i 5))) (Ev.i 1)) Evs.nil)))) (ExL.cons (Ex.put 11 (Ev.lst (Evs.cons (Ev.call 3 Z.ok h_format_two (Nat.le_refl _) (Evs.cons (Ev.bin (Ev.v 3) (Ev.i 3600)) Evs.nil)) (Evs.cons (Ev.call 3 Z.ok h_format_two (Nat.le_refl _) (Evs.cons (Ev.bin (Ev.bin (Ev.v 3) (Ev.i 60)) (Ev.i 60)) Evs.nil)) (Evs.cons (Ev.call 3 Z.ok h_format_two (Nat.le_refl _) (Evs.cons (Ev.bin (Ev.v 3) (Ev.i 60)) Evs.nil)) Evs.nil))))) (ExL.cons (Ex.ret (Ev.bin (Ev.bin (Ev.v 10) Ev.byt) (Ev.join Ev.byt (Evs.cons (Ev.v 11) Evs.nil)))) ExL.nil)))))))))))))
theorem k_format_time : FnOk Γ_format_time 19 "format_time" [("octets", false)] := ⟨by intro pm code doc vs h; obtain ⟨a, rfl⟩ := len1 h; rfl, by decide, rfl, rfl, rfl, rfl, rfl, rfl⟩
theorem d_format_folded {B : Base} {n : Nat} (Z : Glob B)  : ExL B n Γ_format_folded (bodyOf 20) (sem_format_folded ) :=
  (ExL.cons (Ex.ite (Tst.not (Tst.val (Ev.v 1))) (ExL.cons (Ex.ret (Ev.v 0)) ExL.nil) ExL.nil) (ExL.cons (Ex.ret (Ev.prim 0 Z.ok Z.bytes prim_bytes (Evs.cons (Ev.comp (caps := []) ⟨rfl, rfl, rfl, by decide, by decide, by decide, by decide, rfl, by decide⟩ (Ev.v 0) (Tg.name 0) Cds.nil (Ev.ite (Tst.cmp2 (Ev.i 65) (Ev.v 0) (Ev.i 90)) (Ev.bin (Ev.v 0) (Ev.i 32)) (Ev.v 0))) Evs.nil))) ExL.nil))
theorem k_format_folded : FnOk Γ_format_folded 20 "format_folded" [("octets", false), ("is_folded", false)] := ⟨by intro pm code doc vs h; obtain ⟨a, b, rfl⟩ := len2 h; rfl, by decide, rfl, rfl, rfl, rfl, rfl, rfl⟩
theorem d_format_fits {B : Base} {n : Nat} (Z : Glob B)  : ExL B n Γ_format_fits (bodyOf 21) (sem_format_fits ) :=
  (ExL.cons (Ex.putT (Ev.tup (Evs.cons (Ev.i 0) (Evs.cons (Ev.i 0) (Evs.cons Ev.none (Evs.cons (Ev.i 0) Evs.nil))))) (Tg.t 4 (Tgs.cons (Tg.name 2) (Tgs.cons (Tg.name 3) (Tgs.cons (Tg.name 4) (Tgs.cons (Tg.name 5) Tgs.nil)))))) (ExL.cons (Ex.while (Tst.cmp (Ev.v 3) (Ev.prim 0 Z.ok Z.len prim_len (Evs.cons (Ev.v 1) Evs.nil))) (ExL.cons (Ex.ite (Tst.and (Tst.cmp (Ev.v 2) (Ev.prim 0 Z.ok Z.len prim_len (Evs.cons (Ev.v 0) Evs.nil))) (Tst.and (Tst.cmp (Ev.item (Ev.v 0) (Ev.v 2)) (Ev.i 42)) Tst.and0)) (ExL.cons (Ex.putS [4, 5] (Ev.tup (Evs.cons (Ev.v 2) (Evs.cons (Ev.v 3) Evs.nil)))) (ExL.cons (Ex.augI 2 (Ev.i 1)) ExL.nil)) (ExL.cons (Ex.ite (Tst.and (Tst.cmp (Ev.v 2) (Ev.prim 0 Z.ok Z.len prim_len (Evs.cons (Ev.v 0) Evs.nil))) (Tst.and (Tst.cmp (Ev.item (Ev.v 0) (Ev.v 2)) (Ev.tup (Evs.cons (Ev.i 63) (Evs.cons (Ev.item (Ev.v 1) (Ev.v 3)) Evs.nil)))) Tst.and0)) (ExL.cons (Ex.augI 2 (Ev.i 1)) (ExL.cons (Ex.augI 3 (Ev.i 1)) ExL.nil)) (ExL.cons (Ex.ite (Tst.cmp (Ev.v 4) Ev.none) (ExL.cons (Ex.augI 5 (Ev.i 1)) (ExL.cons (Ex.putS [2, 3] (Ev.tup (Evs.cons (Ev.bin (Ev.v 4) (Ev.i 1)) (Evs.cons (Ev.v 5) Evs.nil)))) ExL.nil)) (ExL.cons (Ex.ret (Ev.bool false)) ExL.nil)) ExL.nil)) ExL.nil)) ExL.nil)) (ExL.cons (Ex.while (Tst.and (Tst.cmp (Ev.v 2) (Ev.prim 0 Z.ok Z.len prim_len (Evs.cons (Ev.v 0) Evs.nil))) (Tst.and (Tst.cmp (Ev.item (Ev.v 0) (Ev.v 2)) (Ev.i 42)) Tst.and0)) (ExL.cons (Ex.augI 2 (Ev.i 1)) ExL.nil)) (ExL.cons (Ex.ret (Ev.cmp (Ev.v 2) (Ev.prim 0 Z.ok Z.len prim_len (Evs.cons (Ev.v 0) Evs.nil)))) ExL.nil))))
theorem k_format_fits : FnOk Γ_format_fits 21 "format_fits" [("pattern", false), ("octets", false)] := ⟨by intro pm code doc vs h; obtain ⟨a, b, rfl⟩ := len2 h; rfl, by decide, rfl, rfl, rfl, rfl, rfl, rfl⟩
theorem d_format_whole {B : Base} {n : Nat} (Z : Glob B) {φ_number_of : Spec} (h_number_of : FnN B n "number_of" φ_number_of) : ExL B n Γ_format_whole (bodyOf 22) (sem_format_whole φ_number_of) :=
  (ExL.cons (Ex.put 1 (Ev.call 0 Z.ok h_number_of (Nat.le_refl _) (Evs.cons (Ev.ite (Tst.cmp (Ev.slc (Ev.v 0) Pt.noneone (Pt.i (Ev.i 1))) Ev.byt) (Ev.slc (Ev.v 0) (Pt.i (Ev.i 1)) Pt.noneone) (Ev.v 0)) Evs.nil))) (ExL.cons (Ex.ret (Ev.ite (Tst.and (Tst.cmp (Ev.v 1) Ev.none) (Tst.and (Tst.cmp (Ev.slc (Ev.v 0) Pt.noneone (Pt.i (Ev.i 1))) Ev.byt) Tst.and0)) (Ev.neg (Ev.v 1)) (Ev.v 1))) ExL.nil))
theorem k_format_whole : FnOk Γ_format_whole 22 "format_whole" [("octets", false)] := ⟨by intro pm code doc vs h; obtain ⟨a, rfl⟩ := len1 h; rfl, by decide, rfl, rfl, rfl, rfl, rfl, rfl⟩
theorem d_format_quotient {B : Base} {n : Nat} (Z : Glob B)  : ExL B n Γ_format_quotient (bodyOf 23) (sem_format_quotient ) :=
  (ExL.cons (Ex.put 2 (Ev.bin (Ev.prim 0 Z.ok Z.abs prim_abs (Evs.cons (Ev.v 0) Evs.nil)) (Ev.prim 0 Z.ok Z.abs prim_abs (Evs.cons (Ev.v 1) Evs.nil)))) (ExL.cons (Ex.ret (Ev.ite (Tst.cmp (Ev.cmp (Ev.v 0) (Ev.i 0)) (Ev.cmp (Ev.v 1) (Ev.i 0))) (Ev.v 2) (Ev.neg (Ev.v 2)))) ExL.nil))
theorem k_format_quotient : FnOk Γ_format_quotient 23 "format_quotient" [("one", false), ("other", false)] := ⟨by intro pm code doc vs h; obtain ⟨a, b, rfl⟩ := len2 h; rfl, by decide, rfl, rfl, rfl, rfl, rfl, rfl⟩
theorem d_format_reckoned {B : Base} {n : Nat} (Z : Glob B) {φ_format_whole : Spec} (h_format_whole : FnN B n "format_whole" φ_format_whole) {φ_format_truth : Spec} (h_format_truth : FnN B n "format_truth" φ_format_truth) {φ_format_compared : Spec} (h_format_compared : FnN B n "format_compared" φ_format_compared) {φ_decimal_octets : Spec} (h_decimal_octets : FnN B n "decimal_octets" φ_decimal_octets) {φ_format_quotient : Spec} (h_format_quotient : FnN B n "format_quotient" φ_format_quotient) : ExL B n Γ_format_reckoned (bodyOf 24) (sem_format_reckoned φ_format_whole φ_format_truth φ_format_compared φ_decimal_octets φ_format_quotient) :=
  (ExL.cons (Ex.putS [3, 4] (Ev.tup (Evs.cons (Ev.call 0 Z.ok h_format_whole (Nat.le_refl _) (Evs.cons (Ev.v 1) Evs.nil)) (Evs.cons (Ev.call 0 Z.ok h_format_whole (Nat.le_refl _) (Evs.cons (Ev.v 2) Evs.nil)) Evs.nil)))) (ExL.cons (Ex.ite (Tst.or (Tst.cmp (Ev.v 3) Ev.none) (Tst.or (Tst.cmp (Ev.v 4) Ev.none) (Tst.or (Tst.and (Tst.cmp (Ev.v 0) (Ev.tup (Evs.cons Ev.byt (Evs.cons Ev.byt (Evs.cons Ev.byt Evs.nil))))) (Tst.and (Tst.cmp (Ev.v 4) (Ev.i 0)) Tst.and0)) Tst.or0))) (ExL.cons (Ex.ret Ev.byt) ExL.nil) ExL.nil) (ExL.cons (Ex.ite (Tst.cmp (Ev.v 0) (Ev.tup (Evs.cons Ev.byt (Evs.cons Ev.byt (Evs.cons Ev.byt (Evs.cons Ev.byt (Evs.cons Ev.byt (Evs.cons Ev.byt Evs.nil)))))))) (ExL.cons (Ex.ret (Ev.call 1 Z.ok h_format_truth (Nat.le_refl _) (Evs.cons (Ev.call 2 Z.ok h_format_compared (Nat.le_refl _) (Evs.cons (Ev.v 0) (Evs.cons (Ev.v 3) (Evs.cons (Ev.v 4) Evs.nil)))) Evs.nil))) ExL.nil) ExL.nil) (ExL.cons (Ex.ite (Tst.cmp (Ev.v 0) Ev.byt) (ExL.cons (Ex.ret (Ev.call 3 Z.ok h_decimal_octets (Nat.le_refl _) (Evs.cons (Ev.bin (Ev.v 3) (Ev.v 4)) Evs.nil))) ExL.nil) ExL.nil) (ExL.cons (Ex.ite (Tst.cmp (Ev.v 0) Ev.byt) (ExL.cons (Ex.ret (Ev.call 3 Z.ok h_decimal_octets (Nat.le_refl _) (Evs.cons (Ev.bin (Ev.v 3) (Ev.v 4)) Evs.nil))) ExL.nil) ExL.nil) (ExL.cons (Ex.ite (Tst.cmp (Ev.v 0) Ev.byt) (ExL.cons (Ex.ret (Ev.call 3 Z.ok h_decimal_octets (Nat.le_refl _) (Evs.cons (Ev.bin (Ev.v 3) (Ev.v 4)) Evs.nil))) ExL.nil) ExL.nil) (ExL.cons (Ex.ite (Tst.cmp (Ev.v 0) Ev.byt) (ExL.cons (Ex.ret (Ev.call 3 Z.ok h_decimal_octets (Nat.le_refl _) (Evs.cons (Ev.call 4 Z.ok h_format_quotient (Nat.le_refl _) (Evs.cons (Ev.v 3) (Evs.cons (Ev.v 4) Evs.nil))) Evs.nil))) ExL.nil) ExL.nil) (ExL.cons (Ex.ret (Ev.ite (Tst.cmp (Ev.v 0) (Ev.tup (Evs.cons Ev.byt (Evs.cons Ev.byt Evs.nil)))) (Ev.call 3 Z.ok h_decimal_octets (Nat.le_refl _) (Evs.cons (Ev.bin (Ev.v 3) (Ev.bin (Ev.v 4) (Ev.call 4 Z.ok h_format_quotient (Nat.le_refl _) (Evs.cons (Ev.v 3) (Evs.cons (Ev.v 4) Evs.nil))))) Evs.nil)) Ev.byt)) ExL.nil))))))))
theorem k_format_reckoned : FnOk Γ_format_reckoned 24 "format_reckoned" [("word", false), ("near", false), ("far", false)] := ⟨by intro pm code doc vs h; obtain ⟨a, b, c, rfl⟩ := len3 h; rfl, by decide, rfl, rfl, rfl, rfl, rfl, rfl⟩
theorem d_format_replaced {B : Base} {n : Nat} (Z : Glob B) {φ_format_folded : Spec} (h_format_folded : FnN B n "format_folded" φ_format_folded) : ExL B n Γ_format_replaced (bodyOf 25) (sem_format_replaced φ_format_folded) :=
  (ExL.cons (Ex.ite (Tst.or (Tst.cmp (Ev.prim 0 Z.ok Z.len prim_len (Evs.cons (Ev.v 1) Evs.nil)) (Ev.i 2)) (Tst.or (Tst.cmp (Ev.item (Ev.v 1) (Ev.i 0)) Ev.byt) Tst.or0)) (ExL.cons (Ex.ret (Ev.v 0)) ExL.nil) ExL.nil) (ExL.cons (Ex.put 2 (Ev.and (Ev.cmp (Ev.prim 0 Z.ok Z.len prim_len (Evs.cons (Ev.v 1) Evs.nil)) (Ev.i 2)) (Ev.one (Ev.cmp Ev.byt (Ev.item (Ev.v 1) (Ev.i 2)))))) (ExL.cons (Ex.putS [3, 4] (Ev.tup (Evs.cons (Ev.call 1 Z.ok h_format_folded (Nat.le_refl _) (Evs.cons (Ev.item (Ev.v 1) (Ev.i 0)) (Evs.cons (Ev.v 2) Evs.nil))) (Evs.cons (Ev.call 1 Z.ok h_format_folded (Nat.le_refl _) (Evs.cons (Ev.v 0) (Evs.cons (Ev.v 2) Evs.nil))) Evs.nil)))) (ExL.cons (Ex.putS [5, 6] (Ev.tup (Evs.cons (Ev.prim0 2 Z.ok Z.ba prim_ba) (Evs.cons (Ev.i 0) Evs.nil)))) (ExL.cons (Ex.put 7 (Ev.find (Ev.v 4) (Evs.cons (Ev.v 3) (Evs.cons (Ev.v 6) Evs.nil)))) (ExL.cons (Ex.while (Tst.cmp (Ev.v 7) (Ev.i 0)) (ExL.cons (Ex.augO 5 (Ev.bin (Ev.slc (Ev.v 0) (Pt.i (Ev.v 6)) (Pt.i (Ev.v 7))) (Ev.item (Ev.v 1) (Ev.i 1)))) (ExL.cons (Ex.ite (Tst.cmp (Ev.prim 0 Z.ok Z.len prim_lenO (Evs.cons (Ev.vO 5) Evs.nil)) (Ev.g 3 Z.ok Z.MOST_LONG)) (ExL.cons Ex.never ExL.nil) ExL.nil) (ExL.cons (Ex.put 6 (Ev.bin (Ev.v 7) (Ev.prim 0 Z.ok Z.len prim_len (Evs.cons (Ev.v 3) Evs.nil)))) (ExL.cons (Ex.put 7 (Ev.find (Ev.v 4) (Evs.cons (Ev.v 3) (Evs.cons (Ev.v 6) Evs.nil)))) ExL.nil))))) (ExL.cons (Ex.ret (Ev.bin (Ev.prim 5 Z.ok Z.bytes prim_bytesO (Evs.cons (Ev.vO 5) Evs.nil)) (Ev.slc (Ev.v 0) (Pt.i (Ev.v 6)) Pt.noneone))) ExL.nil)))))))
theorem k_format_replaced : FnOk Γ_format_replaced 25 "format_replaced" [("octets", false), ("told", false)] := ⟨by intro pm code doc vs h; obtain ⟨a, b, rfl⟩ := len2 h; rfl, by decide, rfl, rfl, rfl, rfl, rfl, rfl⟩
theorem d_format_sign_end {B : Base} {n : Nat} (Z : Glob B) {φ_sign_lead : Spec} (h_sign_lead : FnN B n "sign_lead" φ_sign_lead) : ExL B n Γ_format_sign_end (bodyOf 26) (sem_format_sign_end φ_sign_lead) :=
  (ExL.cons (Ex.putS [2, 3] (Ev.tup (Evs.cons (Ev.call 0 Z.ok h_sign_lead (Nat.le_refl _) (Evs.cons (Ev.item (Ev.v 0) (Ev.v 1)) Evs.nil)) (Evs.cons (Ev.bin (Ev.v 1) (Ev.i 1)) Evs.nil)))) (ExL.cons (Ex.ite (Tst.cmp (Ev.v 2) Ev.none) (ExL.cons (Ex.putT (Ev.v 2) (Tg.t 4 (Tgs.cons (Tg.name 4) (Tgs.cons (Tg.name 5) (Tgs.cons (Tg.name 6) (Tgs.cons (Tg.name 7) Tgs.nil)))))) (ExL.cons (Ex.while (Tst.and (Tst.cmp (Ev.v 4) (Ev.i 0)) (Tst.and (Tst.cmp (Ev.v 3) (Ev.prim 1 Z.ok Z.len prim_len (Evs.cons (Ev.v 0) Evs.nil))) (Tst.and (Tst.cmp2 (Ev.v 6) (Ev.item (Ev.v 0) (Ev.v 3)) (Ev.v 7)) Tst.and0))) (ExL.cons (Ex.putT (Ev.tup (Evs.cons (Ev.bin (Ev.v 4) (Ev.i 1)) (Evs.cons (Ev.bin (Ev.v 3) (Ev.i 1)) (Evs.cons (Ev.i 128) (Evs.cons (Ev.i 191) Evs.nil))))) (Tg.t 4 (Tgs.cons (Tg.name 4) (Tgs.cons (Tg.name 3) (Tgs.cons (Tg.name 6) (Tgs.cons (Tg.name 7) Tgs.nil)))))) ExL.nil)) ExL.nil)) ExL.nil) (ExL.cons (Ex.ret (Ev.v 3)) ExL.nil)))
theorem k_format_sign_end : FnOk Γ_format_sign_end 26 "format_sign_end" [("octets", false), ("at", false)] := ⟨by intro pm code doc vs h; obtain ⟨a, b, rfl⟩ := len2 h; rfl, by decide, rfl, rfl, rfl, rfl, rfl, rfl⟩
theorem d_format_pieces {B : Base} {n : Nat} (Z : Glob B) {φ_format_sign_end : Spec} (h_format_sign_end : FnN B n "format_sign_end" φ_format_sign_end) : ExL B n Γ_format_pieces (bodyOf 27) (sem_format_pieces φ_format_sign_end) :=
  (ExL.cons (Ex.putS [1, 2] (Ev.tup (Evs.cons (Ev.ownL Evs.nil) (Evs.cons (Ev.i 0) Evs.nil)))) (ExL.cons (Ex.while (Tst.cmp (Ev.v 2) (Ev.prim 0 Z.ok Z.len prim_len (Evs.cons (Ev.v 0) Evs.nil))) (ExL.cons (Ex.put 3 (Ev.ite (Tst.cmp (Ev.slc (Ev.v 0) (Pt.i (Ev.v 2)) (Pt.i (Ev.bin (Ev.v 2) (Ev.i 2)))) Ev.byt) (Ev.find (Ev.v 0) (Evs.cons Ev.byt (Evs.cons (Ev.v 2) Evs.nil))) (Ev.neg (Ev.i 1)))) (ExL.cons (Ex.ite (Tst.cmp (Ev.v 3) (Ev.i 0)) (ExL.cons (Ex.appL 1 (Ev.tup (Evs.cons (Ev.bool false) (Evs.cons (Ev.slc (Ev.v 0) (Pt.i (Ev.v 2)) (Pt.i (Ev.bin (Ev.v 3) (Ev.i 1)))) Evs.nil)))) (ExL.cons (Ex.put 2 (Ev.bin (Ev.v 3) (Ev.i 1))) ExL.nil)) (ExL.cons (Ex.put 3 (Ev.ite (Tst.cmp (Ev.slc (Ev.v 0) (Pt.i (Ev.v 2)) (Pt.i (Ev.bin (Ev.v 2) (Ev.i 2)))) Ev.byt) (Ev.bin (Ev.v 2) (Ev.i 2)) (Ev.call 1 Z.ok h_format_sign_end (Nat.le_refl _) (Evs.cons (Ev.v 0) (Evs.cons (Ev.v 2) Evs.nil))))) (ExL.cons (Ex.appL 1 (Ev.tup (Evs.cons (Ev.bool true) (Evs.cons (Ev.slc (Ev.v 0) (Pt.i (Ev.v 2)) (Pt.i (Ev.v 3))) Evs.nil)))) (ExL.cons (Ex.put 2 (Ev.v 3)) ExL.nil)))) ExL.nil))) (ExL.cons (Ex.retO 1) ExL.nil)))
theorem k_format_pieces : FnOk Γ_format_pieces 27 "format_pieces" [("octets", false)] := ⟨by intro pm code doc vs h; obtain ⟨a, rfl⟩ := len1 h; rfl, by decide, rfl, rfl, rfl, rfl, rfl, rfl⟩
theorem d_format_width {B : Base} {n : Nat} (Z : Glob B) {φ_format_pieces : Spec} (h_format_pieces : FnN B n "format_pieces" φ_format_pieces) : ExL B n Γ_format_width (bodyOf 28) (sem_format_width φ_format_pieces) :=
  (ExL.cons (Ex.ret (Ev.prim 0 Z.ok Z.len prim_len (Evs.cons (Ev.comp (caps := []) ⟨rfl, rfl, rfl, by decide, by decide, by decide, by decide, rfl, by decide⟩ (Ev.call 1 Z.ok h_format_pieces (Nat.le_refl _) (Evs.cons (Ev.v 0) Evs.nil)) (Tg.name 0) (Cds.one (Tst.val (Ev.item (Ev.v 0) (Ev.i 0)))) (Ev.v 0)) Evs.nil))) ExL.nil)
theorem k_format_width : FnOk Γ_format_width 28 "format_width" [("octets", false)] := ⟨by intro pm code doc vs h; obtain ⟨a, rfl⟩ := len1 h; rfl, by decide, rfl, rfl, rfl, rfl, rfl, rfl⟩
theorem d_format_cut {B : Base} {n : Nat} (Z : Glob B) {φ_format_pieces : Spec} (h_format_pieces : FnN B n "format_pieces" φ_format_pieces) : ExL B n Γ_format_cut (bodyOf 29) (sem_format_cut φ_format_pieces) :=
  (ExL.cons (Ex.put 3 (Ev.call 0 Z.ok h_format_pieces (Nat.le_refl _) (Evs.cons (Ev.v 0) Evs.nil))) (ExL.cons (Ex.put 4 (Ev.ite (Tst.val (Ev.v 2)) (Ev.bin (Ev.prim 1 Z.ok Z.len prim_len (Evs.cons (Ev.comp (caps := []) ⟨rfl, rfl, rfl, by decide, by decide, by decide, by decide, rfl, by decide⟩ (Ev.v 3) (Tg.name 0) (Cds.one (Tst.val (Ev.item (Ev.v 0) (Ev.i 0)))) (Ev.v 0)) Evs.nil)) (Ev.v 1)) (Ev.i 0))) (ExL.cons (Ex.putS [5, 6] (Ev.tup (Evs.cons (Ev.prim0 2 Z.ok Z.ba prim_ba) (Evs.cons (Ev.i 0) Evs.nil)))) (ExL.cons (Ex.for (Ev.v 3) (Tg.t 2 (Tgs.cons (Tg.name 7) (Tgs.cons (Tg.name 8) Tgs.nil))) (ExL.cons (Ex.ite (Tst.val (Ev.v 7)) (ExL.cons (Ex.augI 6 (Ev.i 1)) ExL.nil) ExL.nil) (ExL.cons (Ex.ite (Tst.or (Tst.not (Tst.val (Ev.v 7))) (Tst.or (Tst.and (Tst.cmp (Ev.v 6) (Ev.v 4)) (Tst.and (Tst.cmp (Ev.v 6) (Ev.bin (Ev.v 1) (Ev.prim 3 Z.ok Z.max prim_max (Evs.cons (Ev.i 0) (Evs.cons (Ev.v 4) Evs.nil))))) Tst.and0)) Tst.or0)) (ExL.cons (Ex.augO 5 (Ev.v 8)) ExL.nil) ExL.nil) ExL.nil))) (ExL.cons (Ex.ret (Ev.prim 4 Z.ok Z.bytes prim_bytesO (Evs.cons (Ev.vO 5) Evs.nil))) ExL.nil)))))
theorem k_format_cut : FnOk Γ_format_cut 29 "format_cut" [("octets", false), ("most", false), ("is_from_end", false)] := ⟨by intro pm code doc vs h; obtain ⟨a, b, c, rfl⟩ := len3 h; rfl, by decide, rfl, rfl, rfl, rfl, rfl, rfl⟩
theorem d_format_limited {B : Base} {n : Nat} (Z : Glob B) {φ_format_whole : Spec} (h_format_whole : FnN B n "format_whole" φ_format_whole) {φ_format_width : Spec} (h_format_width : FnN B n "format_width" φ_format_width) {φ_format_cut : Spec} (h_format_cut : FnN B n "format_cut" φ_format_cut) : ExL B n Γ_format_limited (bodyOf 30) (sem_format_limited φ_format_whole φ_format_width φ_format_cut) :=
  (ExL.cons (Ex.put 2 (Ev.ite (Tst.cmp (Ev.v 1) (Ev.lst Evs.nil)) (Ev.call 0 Z.ok h_format_whole (Nat.le_refl _) (Evs.cons (Ev.item (Ev.v 1) (Ev.i 0)) Evs.nil)) Ev.none)) (ExL.cons (Ex.ite (Tst.or (Tst.cmp (Ev.v 2) Ev.none) (Tst.or (Tst.cmp (Ev.v 2) (Ev.i 0)) Tst.or0)) (ExL.cons (Ex.ret (Ev.v 0)) ExL.nil) ExL.nil) (ExL.cons (Ex.put 3 (Ev.prim 1 Z.ok Z.abs prim_abs (Evs.cons (Ev.v 2) Evs.nil))) (ExL.cons (Ex.ite (Tst.cmp (Ev.call 2 Z.ok h_format_width (Nat.le_refl _) (Evs.cons (Ev.v 0) Evs.nil)) (Ev.v 3)) (ExL.cons (Ex.ret (Ev.v 0)) ExL.nil) ExL.nil) (ExL.cons (Ex.put 4 (Ev.ite (Tst.cmp (Ev.prim 3 Z.ok Z.len prim_len (Evs.cons (Ev.v 1) Evs.nil)) (Ev.i 1)) (Ev.item (Ev.v 1) (Ev.i 1)) Ev.byt)) (ExL.cons (Ex.put 5 (Ev.call 4 Z.ok h_format_cut (Nat.le_refl _) (Evs.cons (Ev.v 0) (Evs.cons (Ev.v 3) (Evs.cons (Ev.cmp (Ev.v 2) (Ev.i 0)) Evs.nil))))) (ExL.cons (Ex.ret (Ev.ite (Tst.cmp (Ev.v 2) (Ev.i 0)) (Ev.bin (Ev.v 4) (Ev.v 5)) (Ev.bin (Ev.v 5) (Ev.v 4)))) ExL.nil)))))))
theorem k_format_limited : FnOk Γ_format_limited 30 "format_limited" [("octets", false), ("told", false)] := ⟨by intro pm code doc vs h; obtain ⟨a, b, rfl⟩ := len2 h; rfl, by decide, rfl, rfl, rfl, rfl, rfl, rfl⟩
theorem d_format_filled {B : Base} {n : Nat} (Z : Glob B) {φ_format_whole : Spec} (h_format_whole : FnN B n "format_whole" φ_format_whole) {φ_format_width : Spec} (h_format_width : FnN B n "format_width" φ_format_width) : ExL B n Γ_format_filled (bodyOf 31) (sem_format_filled φ_format_whole φ_format_width) :=
  (ExL.cons (Ex.put 2 (Ev.ite (Tst.cmp (Ev.v 1) (Ev.lst Evs.nil)) (Ev.call 0 Z.ok h_format_whole (Nat.le_refl _) (Evs.cons (Ev.item (Ev.v 1) (Ev.i 0)) Evs.nil)) Ev.none)) (ExL.cons (Ex.ite (Tst.cmp (Ev.v 2) Ev.none) (ExL.cons (Ex.ret (Ev.v 0)) ExL.nil) ExL.nil) (ExL.cons (Ex.put 3 (Ev.bin Ev.byt (Ev.prim 1 Z.ok Z.max prim_max (Evs.cons (Ev.i 0) (Evs.cons (Ev.bin (Ev.prim 2 Z.ok Z.min prim_min (Evs.cons (Ev.prim 3 Z.ok Z.abs prim_abs (Evs.cons (Ev.v 2) Evs.nil)) (Evs.cons (Ev.g 4 Z.ok Z.MOST_WIDE) Evs.nil))) (Ev.call 5 Z.ok h_format_width (Nat.le_refl _) (Evs.cons (Ev.v 0) Evs.nil))) Evs.nil))))) (ExL.cons (Ex.ret (Ev.ite (Tst.cmp (Ev.v 2) (Ev.i 0)) (Ev.bin (Ev.v 0) (Ev.v 3)) (Ev.bin (Ev.v 3) (Ev.v 0)))) ExL.nil))))
theorem k_format_filled : FnOk Γ_format_filled 31 "format_filled" [("octets", false), ("told", false)] := ⟨by intro pm code doc vs h; obtain ⟨a, b, rfl⟩ := len2 h; rfl, by decide, rfl, rfl, rfl, rfl, rfl, rfl⟩
theorem d__law_deck {B : Base} {n : Nat} (Z : Glob B)  : ExL B n Γ__law_deck (bodyOf 33) (sem__law_deck ) :=
  (ExL.cons (Ex.putS [2, 3] (Ev.tup (Evs.cons (Ev.comp (caps := []) ⟨rfl, rfl, rfl, by decide, by decide, by decide, by decide, rfl, by decide⟩ (Ev.slc (Ev.v 0) Pt.noneone (Pt.i (Ev.i 20))) (Tg.name 0) Cds.nil (Ev.bin (Ev.prim 0 Z.ok Z.int prim_int (Evs.cons (Ev.v 0) Evs.nil)) (Ev.bin (Ev.i 10) (Ev.i 60)))) (Evs.cons (Ev.i 29696) Evs.nil)))) (ExL.cons (Ex.for (Ev.v 2) (Tg.name 1) (ExL.cons (Ex.put 3 (Ev.bin (Ev.bin (Ev.bin (Ev.bin (Ev.v 3) (Ev.i 48271)) (Ev.bin (Ev.v 1) (Ev.i 2147483629))) (Ev.i 29696)) (Ev.i 2147483587))) ExL.nil)) (ExL.cons (Ex.retDk 2 3) ExL.nil)))
theorem k__law_deck : FnOk Γ__law_deck 33 "_law_deck" [("script", false)] := ⟨by intro pm code doc vs h; obtain ⟨a, rfl⟩ := len1 h; rfl, by decide, rfl, rfl, rfl, rfl, rfl, rfl⟩
theorem d__law_draw {B : Base} {n : Nat}  : ExL B n Γ__law_draw (bodyOf 34) (sem__law_draw ) :=
  (ExL.cons (Ex.dkSet 0 (Ev.bin (Ev.turn 0) (Ev.i 1))) (ExL.cons (Ex.put 2 (Ev.bin (Ev.mixed 0) (Ev.bin (Ev.bin (Ev.i 61613) (Ev.turn 0)) (Ev.turn 0)))) (ExL.cons (Ex.ite (Tst.dkNE 0) (ExL.cons (Ex.put 3 (Ev.dkPop 0)) (ExL.cons (Ex.ite (Tst.cmp (Ev.v 3) (Ev.i 1000000)) (ExL.cons (Ex.dkApp 0 (Ev.bin (Ev.v 3) (Ev.v 1))) (ExL.cons (Ex.ret (Ev.bin (Ev.v 3) (Ev.v 1))) ExL.nil)) ExL.nil) (ExL.cons (Ex.put 2 (Ev.bin (Ev.v 2) (Ev.bin (Ev.v 3) (Ev.i 2147483563)))) ExL.nil))) ExL.nil) (ExL.cons (Ex.put 2 (Ev.bin (Ev.bin (Ev.bin (Ev.v 2) (Ev.i 2147483629)) (Ev.i 40692)) (Ev.i 2147483647))) (ExL.cons (Ex.put 2 (Ev.bin (Ev.bin (Ev.bin (Ev.v 2) (Ev.v 2)) (Ev.i 2081)) (Ev.i 2147483587))) (ExL.cons (Ex.ret (Ev.bin (Ev.bin (Ev.bin (Ev.bin (Ev.v 2) (Ev.i 39373)) (Ev.i 2147483579)) (Ev.i 64)) (Ev.v 1))) ExL.nil))))))
theorem k__law_draw : FnOk Γ__law_draw 34 "_law_draw" [("deck", false), ("below", false)] := ⟨by intro pm code doc vs h; obtain ⟨a, b, rfl⟩ := len2 h; rfl, by decide, rfl, rfl, rfl, rfl, rfl, rfl⟩
theorem d__law_pick {B : Base} {n : Nat} (Z : Glob B) {φ__law_draw : Spec} (h__law_draw : FnN B n "_law_draw" φ__law_draw) : ExL B n Γ__law_pick (bodyOf 35) (sem__law_pick φ__law_draw) :=
  (ExL.cons (Ex.ret (Ev.item (Ev.v 1) (Ev.call 0 Z.ok h__law_draw (Nat.le_refl _) (Evs.cons (Ev.v 0) (Evs.cons (Ev.prim 1 Z.ok Z.len prim_len (Evs.cons (Ev.v 1) Evs.nil)) Evs.nil))))) ExL.nil)
theorem k__law_pick : FnOk Γ__law_pick 35 "_law_pick" [("deck", false), ("some", false)] := ⟨by intro pm code doc vs h; obtain ⟨a, b, rfl⟩ := len2 h; rfl, by decide, rfl, rfl, rfl, rfl, rfl, rfl⟩
theorem d__law_figures {B : Base} {n : Nat} (Z : Glob B)  : ExL B n Γ__law_figures (bodyOf 36) (sem__law_figures ) :=
  (ExL.cons (Ex.putS [1, 2] (Ev.tup (Evs.cons Ev.byt (Evs.cons (Ev.prim 0 Z.ok Z.abs prim_abs (Evs.cons (Ev.v 0) Evs.nil)) Evs.nil)))) (ExL.cons (Ex.while (Tst.or (Tst.cmp (Ev.v 2) (Ev.i 0)) (Tst.or (Tst.cmp (Ev.v 1) Ev.byt) Tst.or0)) (ExL.cons (Ex.putS [1, 2] (Ev.tup (Evs.cons (Ev.bin (Ev.prim 1 Z.ok Z.bytes prim_bytes (Evs.cons (Ev.lst (Evs.cons (Ev.bin (Ev.i 48) (Ev.bin (Ev.v 2) (Ev.i 10))) Evs.nil)) Evs.nil)) (Ev.v 1)) (Evs.cons (Ev.bin (Ev.v 2) (Ev.i 10)) Evs.nil)))) ExL.nil)) (ExL.cons (Ex.ret (Ev.bin (Ev.ite (Tst.cmp (Ev.v 0) (Ev.i 0)) Ev.byt Ev.byt) (Ev.v 1))) ExL.nil)))
theorem k__law_figures : FnOk Γ__law_figures 36 "_law_figures" [("number", false)] := ⟨by intro pm code doc vs h; obtain ⟨a, rfl⟩ := len1 h; rfl, by decide, rfl, rfl, rfl, rfl, rfl, rfl⟩
theorem d__law_number {B : Base} {n : Nat} (Z : Glob B) {φ__law_draw : Spec} (h__law_draw : FnN B n "_law_draw" φ__law_draw) {φ__law_pick : Spec} (h__law_pick : FnN B n "_law_pick" φ__law_pick) {φ__law_figures : Spec} (h__law_figures : FnN B n "_law_figures" φ__law_figures) : ExL B n Γ__law_number (bodyOf 37) (sem__law_number φ__law_draw φ__law_pick φ__law_figures) :=
  (ExL.cons (Ex.put 1 (Ev.call 0 Z.ok h__law_draw (Nat.le_refl _) (Evs.cons (Ev.v 0) (Evs.cons (Ev.i 8) Evs.nil)))) (ExL.cons (Ex.ite (Tst.cmp (Ev.v 1) (Ev.i 7)) (ExL.cons (Ex.ret (Ev.tup (Evs.cons (Ev.call 1 Z.ok h__law_pick (Nat.le_refl _) (Evs.cons (Ev.v 0) (Evs.cons (Ev.lst (Evs.cons Ev.byt (Evs.cons Ev.byt (Evs.cons Ev.byt (Evs.cons Ev.byt (Evs.cons Ev.byt (Evs.cons Ev.byt (Evs.cons Ev.byt Evs.nil)))))))) Evs.nil))) (Evs.cons Ev.none Evs.nil)))) ExL.nil) ExL.nil) (ExL.cons (Ex.put 2 (Ev.bin (Ev.call 1 Z.ok h__law_pick (Nat.le_refl _) (Evs.cons (Ev.v 0) (Evs.cons (Ev.lst (Evs.cons (Ev.i 0) (Evs.cons (Ev.i 1) (Evs.cons (Ev.i 2) (Evs.cons (Ev.i 3) (Evs.cons (Ev.i 7) (Evs.cons (Ev.i 10) (Evs.cons (Ev.i 12) (Evs.cons (Ev.i 250) Evs.nil))))))))) Evs.nil))) (Ev.ite (Tst.cmp (Ev.bin (Ev.v 1) (Ev.i 2)) (Ev.i 0)) (Ev.i 1) (Ev.neg (Ev.i 1))))) (ExL.cons (Ex.ret (Ev.tup (Evs.cons (Ev.ite (Tst.cmp (Ev.v 1) (Ev.i 4)) (Ev.bin (Ev.ite (Tst.cmp (Ev.v 2) (Ev.i 0)) Ev.byt Ev.byt) (Ev.call 2 Z.ok h__law_figures (Nat.le_refl _) (Evs.cons (Ev.prim 3 Z.ok Z.abs prim_abs (Evs.cons (Ev.v 2) Evs.nil)) Evs.nil))) (Ev.call 2 Z.ok h__law_figures (Nat.le_refl _) (Evs.cons (Ev.v 2) Evs.nil))) (Evs.cons (Ev.v 2) Evs.nil)))) ExL.nil))))
theorem k__law_number : FnOk Γ__law_number 37 "_law_number" [("deck", false)] := ⟨by intro pm code doc vs h; obtain ⟨a, rfl⟩ := len1 h; rfl, by decide, rfl, rfl, rfl, rfl, rfl, rfl⟩
theorem d__law_reckoned_right {B : Base} {n : Nat} (Z : Glob B) {φ__law_number : Spec} (h__law_number : FnN B n "_law_number" φ__law_number) {φ__law_pick : Spec} (h__law_pick : FnN B n "_law_pick" φ__law_pick) {φ_format_whole : Spec} (h_format_whole : FnN B n "format_whole" φ_format_whole) {φ_format_reckoned : Spec} (h_format_reckoned : FnN B n "format_reckoned" φ_format_reckoned) {φ__law_figures : Spec} (h__law_figures : FnN B n "_law_figures" φ__law_figures) : ExL B n Γ__law_reckoned_right (bodyOf 38) (sem__law_reckoned_right φ__law_number φ__law_pick φ_format_whole φ_format_reckoned φ__law_figures) :=
  (ExL.cons (Ex.putT (Ev.tup (Evs.cons (Ev.call 0 Z.ok h__law_number (Nat.le_refl _) (Evs.cons (Ev.v 0) Evs.nil)) (Evs.cons (Ev.call 0 Z.ok h__law_number (Nat.le_refl _) (Evs.cons (Ev.v 0) Evs.nil)) Evs.nil))) (Tg.t 2 (Tgs.cons (Tg.t 2 (Tgs.cons (Tg.name 1) (Tgs.cons (Tg.name 2) Tgs.nil))) (Tgs.cons (Tg.t 2 (Tgs.cons (Tg.name 3) (Tgs.cons (Tg.name 4) Tgs.nil))) Tgs.nil)))) (ExL.cons (Ex.putS [5, 6] (Ev.tup (Evs.cons (Ev.call 1 Z.ok h__law_pick (Nat.le_refl _) (Evs.cons (Ev.v 0) (Evs.cons (Ev.lst (Evs.cons Ev.byt (Evs.cons Ev.byt (Evs.cons Ev.byt (Evs.cons Ev.byt (Evs.cons Ev.byt (Evs.cons Ev.byt (Evs.cons Ev.byt (Evs.cons Ev.byt (Evs.cons Ev.byt (Evs.cons Ev.byt (Evs.cons Ev.byt (Evs.cons Ev.byt (Evs.cons Ev.byt Evs.nil)))))))))))))) Evs.nil))) (Evs.cons Ev.none Evs.nil)))) (ExL.cons (Ex.ite (Tst.or (Tst.cmp (Ev.call 2 Z.ok h_format_whole (Nat.le_refl _) (Evs.cons (Ev.v 1) Evs.nil)) (Ev.v 2)) (Tst.or (Tst.cmp (Ev.call 2 Z.ok h_format_whole (Nat.le_refl _) (Evs.cons (Ev.v 3) Evs.nil)) (Ev.v 4)) Tst.or0)) (ExL.cons (Ex.ret (Ev.bool false)) ExL.nil) ExL.nil) (ExL.cons (Ex.ite (Tst.and (Tst.cmp (Ev.v 2) Ev.none) (Tst.and (Tst.cmp (Ev.v 4) Ev.none) (Tst.and (Tst.cmp (Ev.v 5) Ev.byt) Tst.and0))) (ExL.cons (Ex.put 7 (Ev.ite (Tst.cmp (Ev.v 4) (Ev.i 0)) Ev.none (Ev.bin (Ev.bin (Ev.prim 3 Z.ok Z.abs prim_abs (Evs.cons (Ev.v 2) Evs.nil)) (Ev.prim 3 Z.ok Z.abs prim_abs (Evs.cons (Ev.v 4) Evs.nil))) (Ev.ite (Tst.cmp (Ev.cmp (Ev.v 2) (Ev.i 0)) (Ev.cmp (Ev.v 4) (Ev.i 0))) (Ev.i 1) (Ev.neg (Ev.i 1)))))) (ExL.cons (Ex.ite (Tst.cmp (Ev.v 5) (Ev.tup (Evs.cons Ev.byt (Evs.cons Ev.byt (Evs.cons Ev.byt Evs.nil))))) (ExL.cons (Ex.put 6 (Ev.ite (Tst.or (Tst.cmp (Ev.v 5) Ev.byt) (Tst.or (Tst.cmp (Ev.v 7) Ev.none) Tst.or0)) (Ev.v 7) (Ev.bin (Ev.v 2) (Ev.bin (Ev.v 4) (Ev.v 7))))) ExL.nil) (ExL.cons (Ex.ite (Tst.cmp (Ev.v 5) (Ev.tup (Evs.cons Ev.byt (Evs.cons Ev.byt (Evs.cons Ev.byt Evs.nil))))) (ExL.cons (Ex.put 6 (Ev.ite (Tst.cmp (Ev.v 5) Ev.byt) (Ev.bin (Ev.v 2) (Ev.v 4)) (Ev.ite (Tst.cmp (Ev.v 5) Ev.byt) (Ev.bin (Ev.v 2) (Ev.v 4)) (Ev.bin (Ev.v 2) (Ev.v 4))))) ExL.nil) (ExL.cons (Ex.put 6 (Ev.dget Z.ok (Dsp.cons (Ev.cmp (Ev.v 2) (Ev.v 4)) (Dsp.cons (Ev.cmp (Ev.v 2) (Ev.v 4)) (Dsp.cons (Ev.cmp (Ev.v 2) (Ev.v 4)) (Dsp.cons (Ev.cmp (Ev.v 2) (Ev.v 4)) Dsp.nil)))) (Ev.v 5))) (ExL.cons (Ex.put 6 (Ev.prim 4 Z.ok Z.int prim_int (Evs.cons (Ev.ite (Tst.cmp (Ev.v 6) Ev.none) (Ev.ite (Tst.cmp (Ev.v 5) Ev.byt) (Ev.cmp (Ev.v 2) (Ev.v 4)) (Ev.cmp (Ev.v 2) (Ev.v 4))) (Ev.v 6)) Evs.nil))) ExL.nil))) ExL.nil)) ExL.nil)) ExL.nil) (ExL.cons (Ex.ret (Ev.cmp (Ev.call 5 Z.ok h_format_reckoned (Nat.le_refl _) (Evs.cons (Ev.v 5) (Evs.cons (Ev.v 1) (Evs.cons (Ev.v 3) Evs.nil)))) (Ev.ite (Tst.cmp (Ev.v 6) Ev.none) Ev.byt (Ev.call 6 Z.ok h__law_figures (Nat.le_refl _) (Evs.cons (Ev.v 6) Evs.nil))))) ExL.nil)))))
theorem k__law_reckoned_right : FnOk Γ__law_reckoned_right 38 "_law_reckoned_right" [("deck", false)] := ⟨by intro pm code doc vs h; obtain ⟨a, rfl⟩ := len1 h; rfl, by decide, rfl, rfl, rfl, rfl, rfl, rfl⟩
theorem d__law_is_long {B : Base} {n : Nat}  : ExL B n Γ__law_is_long (bodyOf 39) (sem__law_is_long ) :=
  (ExL.cons (Ex.ret (Ev.and (Ev.cmp (Ev.bin (Ev.v 0) (Ev.i 4)) (Ev.i 0)) (Ev.one (Ev.or (Ev.cmp (Ev.bin (Ev.v 0) (Ev.i 100)) (Ev.i 0)) (Ev.one (Ev.cmp (Ev.bin (Ev.v 0) (Ev.i 400)) (Ev.i 0))))))) ExL.nil)
theorem k__law_is_long : FnOk Γ__law_is_long 39 "_law_is_long" [("year", false)] := ⟨by intro pm code doc vs h; obtain ⟨a, rfl⟩ := len1 h; rfl, by decide, rfl, rfl, rfl, rfl, rfl, rfl⟩
theorem d__law_time_right {B : Base} {n : Nat} (Z : Glob B) {φ__law_pick : Spec} (h__law_pick : FnN B n "_law_pick" φ__law_pick) {φ__law_draw : Spec} (h__law_draw : FnN B n "_law_draw" φ__law_draw) {φ__law_is_long : Spec} (h__law_is_long : FnN B n "_law_is_long" φ__law_is_long) {φ__law_figures : Spec} (h__law_figures : FnN B n "_law_figures" φ__law_figures) {φ_format_time : Spec} (h_format_time : FnN B n "format_time" φ_format_time) : ExL B n Γ__law_time_right (bodyOf 40) (sem__law_time_right φ__law_pick φ__law_draw φ__law_is_long φ__law_figures φ_format_time) :=
  (ExL.cons (Ex.put 1 (Ev.bin (Ev.call 0 Z.ok h__law_pick (Nat.le_refl _) (Evs.cons (Ev.v 0) (Evs.cons (Ev.lst (Evs.cons (Ev.i 0) (Evs.cons (Ev.i 59) (Evs.cons (Ev.i 86399) (Evs.cons (Ev.i 86400) (Evs.cons (Ev.i 951782399) (Evs.cons (Ev.i 951782400) (Evs.cons (Ev.i 1709251199) (Evs.cons (Ev.i 4102444800) Evs.nil))))))))) Evs.nil))) (Ev.bin (Ev.call 1 Z.ok h__law_draw (Nat.le_refl _) (Evs.cons (Ev.v 0) (Evs.cons (Ev.i 3) Evs.nil))) (Ev.i 86399)))) (ExL.cons (Ex.putT (Ev.tup (Evs.cons (Ev.bin (Ev.v 1) (Ev.i 86400)) (Evs.cons (Ev.bin (Ev.v 1) (Ev.i 86400)) (Evs.cons (Ev.i 1970) (Evs.cons (Ev.i 0) Evs.nil))))) (Tg.t 4 (Tgs.cons (Tg.name 2) (Tgs.cons (Tg.name 3) (Tgs.cons (Tg.name 4) (Tgs.cons (Tg.name 5) Tgs.nil)))))) (ExL.cons (Ex.while (Tst.cmp (Ev.v 2) (Ev.bin (Ev.i 365) (Ev.prim 2 Z.ok Z.int prim_int (Evs.cons (Ev.call 3 Z.ok h__law_is_long (Nat.le_refl _) (Evs.cons (Ev.v 4) Evs.nil)) Evs.nil)))) (ExL.cons (Ex.putS [2, 4] (Ev.tup (Evs.cons (Ev.bin (Ev.bin (Ev.v 2) (Ev.i 365)) (Ev.prim 2 Z.ok Z.int prim_int (Evs.cons (Ev.call 3 Z.ok h__law_is_long (Nat.le_refl _) (Evs.cons (Ev.v 4) Evs.nil)) Evs.nil))) (Evs.cons (Ev.bin (Ev.v 4) (Ev.i 1)) Evs.nil)))) ExL.nil)) (ExL.cons (Ex.put 6 (Ev.lst (Evs.cons (Ev.i 31) (Evs.cons (Ev.ite (Tst.val (Ev.call 3 Z.ok h__law_is_long (Nat.le_refl _) (Evs.cons (Ev.v 4) Evs.nil))) (Ev.i 29) (Ev.i 28)) (Evs.cons (Ev.i 31) (Evs.cons (Ev.i 30) (Evs.cons (Ev.i 31) (Evs.cons (Ev.i 30) (Evs.cons (Ev.i 31) (Evs.cons (Ev.i 31) (Evs.cons (Ev.i 30) (Evs.cons (Ev.i 31) (Evs.cons (Ev.i 30) (Evs.cons (Ev.i 31) Evs.nil)))))))))))))) (ExL.cons (Ex.while (Tst.cmp (Ev.v 2) (Ev.item (Ev.v 6) (Ev.v 5))) (ExL.cons (Ex.putS [2, 5] (Ev.tup (Evs.cons (Ev.bin (Ev.v 2) (Ev.item (Ev.v 6) (Ev.v 5))) (Evs.cons (Ev.bin (Ev.v 5) (Ev.i 1)) Evs.nil)))) ExL.nil)) (ExL.cons (Ex.putC 7 (caps := []) ⟨rfl, rfl, rfl, by decide, by decide, by decide, by decide, rfl, by decide⟩ (Ev.tup (Evs.cons (Ev.bin (Ev.v 5) (Ev.i 1)) (Evs.cons (Ev.bin (Ev.v 2) (Ev.i 1)) (Evs.cons (Ev.bin (Ev.v 3) (Ev.i 3600)) (Evs.cons (Ev.bin (Ev.bin (Ev.v 3) (Ev.i 60)) (Ev.i 60)) (Evs.cons (Ev.bin (Ev.v 3) (Ev.i 60)) Evs.nil)))))) (Tg.name 0) Cds.nil (Ev.slc (Ev.call 0 Z.ok h__law_figures (Nat.le_refl _) (Evs.cons (Ev.bin (Ev.i 100) (Ev.v 0)) Evs.nil)) (Pt.i (Ev.i 1)) Pt.noneone)) (ExL.cons (Ex.put 8 (Ev.bin (Ev.bin (Ev.bin (Ev.bin (Ev.bin (Ev.bin (Ev.bin (Ev.bin (Ev.bin (Ev.bin (Ev.call 4 Z.ok h__law_figures (Nat.le_refl _) (Evs.cons (Ev.v 4) Evs.nil)) Ev.byt) (Ev.item (Ev.v 7) (Ev.i 0))) Ev.byt) (Ev.item (Ev.v 7) (Ev.i 1))) Ev.byt) (Ev.item (Ev.v 7) (Ev.i 2))) Ev.byt) (Ev.item (Ev.v 7) (Ev.i 3))) Ev.byt) (Ev.item (Ev.v 7) (Ev.i 4)))) (ExL.cons (Ex.ret (Ev.and (Ev.cmp (Ev.call 5 Z.ok h_format_time (Nat.le_refl _) (Evs.cons (Ev.call 4 Z.ok h__law_figures (Nat.le_refl _) (Evs.cons (Ev.v 1) Evs.nil)) Evs.nil)) (Ev.v 8)) (Ev.one (Ev.cmp (Ev.call 5 Z.ok h_format_time (Nat.le_refl _) (Evs.cons (Ev.call 0 Z.ok h__law_pick (Nat.le_refl _) (Evs.cons (Ev.v 0) (Evs.cons (Ev.lst (Evs.cons Ev.byt (Evs.cons Ev.byt (Evs.cons Ev.byt (Evs.cons Ev.byt (Evs.cons Ev.byt Evs.nil)))))) Evs.nil))) Evs.nil)) Ev.byt)))) ExL.nil))))))))
theorem k__law_time_right : FnOk Γ__law_time_right 40 "_law_time_right" [("deck", false)] := ⟨by intro pm code doc vs h; obtain ⟨a, rfl⟩ := len1 h; rfl, by decide, rfl, rfl, rfl, rfl, rfl, rfl⟩
theorem d__law_fits {B : Base} {n : Nat} (Z : Glob B) {φ__law_fits : Spec} (h__law_fits : FnN B n "_law_fits" φ__law_fits) : ExL B n Γ__law_fits (bodyOf 41) (sem__law_fits φ__law_fits) :=
  (ExL.cons (Ex.ite (Tst.cmp (Ev.v 0) Ev.byt) (ExL.cons (Ex.ret (Ev.cmp (Ev.v 1) Ev.byt)) ExL.nil) ExL.nil) (ExL.cons (Ex.ite (Tst.cmp (Ev.slc (Ev.v 0) Pt.noneone (Pt.i (Ev.i 1))) Ev.byt) (ExL.cons (Ex.ret (Ev.cmp (Ev.comp (caps := [1, 0]) ⟨rfl, rfl, rfl, by decide, by decide, by decide, by decide, rfl, by decide⟩ (Ev.prim 0 Z.ok Z.range prim_range (Evs.cons (Ev.bin (Ev.prim 1 Z.ok Z.len prim_len (Evs.cons (Ev.v 1) Evs.nil)) (Ev.i 1)) Evs.nil)) (Tg.name 2) (Cds.one (Tst.val (Ev.call 0 Z.ok h__law_fits (Nat.le_refl _) (Evs.cons (Ev.slc (Ev.v 1) (Pt.i (Ev.i 1)) Pt.noneone) (Evs.cons (Ev.slc (Ev.v 0) (Pt.i (Ev.v 2)) Pt.noneone) Evs.nil))))) (Ev.v 2)) (Ev.lst Evs.nil))) ExL.nil) ExL.nil) (ExL.cons (Ex.ret (Ev.and (Ev.cmp (Ev.v 1) Ev.byt) (Ev.and (Ev.cmp (Ev.slc (Ev.v 0) Pt.noneone (Pt.i (Ev.i 1))) (Ev.tup (Evs.cons Ev.byt (Evs.cons (Ev.slc (Ev.v 1) Pt.noneone (Pt.i (Ev.i 1))) Evs.nil)))) (Ev.one (Ev.call 2 Z.ok h__law_fits (Nat.le_refl _) (Evs.cons (Ev.slc (Ev.v 0) (Pt.i (Ev.i 1)) Pt.noneone) (Evs.cons (Ev.slc (Ev.v 1) (Pt.i (Ev.i 1)) Pt.noneone) Evs.nil))))))) ExL.nil)))
theorem k__law_fits : FnOk Γ__law_fits 41 "_law_fits" [("pattern", true), ("octets", true)] := ⟨by intro pm code doc vs h; obtain ⟨a, b, rfl⟩ := len2 h; rfl, by decide, rfl, rfl, rfl, rfl, rfl, rfl⟩
theorem d__law_fits_right {B : Base} {n : Nat} (Z : Glob B) {φ__law_draw : Spec} (h__law_draw : FnN B n "_law_draw" φ__law_draw) {φ__law_pick : Spec} (h__law_pick : FnN B n "_law_pick" φ__law_pick) {φ_format_fits : Spec} (h_format_fits : FnN B n "format_fits" φ_format_fits) {φ__law_fits : Spec} (h__law_fits : FnN B n "_law_fits" φ__law_fits) : ExL B n Γ__law_fits_right (bodyOf 42) (sem__law_fits_right φ__law_draw φ__law_pick φ_format_fits φ__law_fits) :=
  (ExL.cons (Ex.put 1 (Ev.join Ev.byt (Evs.cons (Ev.comp (caps := [0]) ⟨rfl, rfl, rfl, by decide, by decide, by decide, by decide, rfl, by decide⟩ (Ev.prim 0 Z.ok Z.range prim_range (Evs.cons (Ev.call 1 Z.ok h__law_draw (Nat.le_refl _) (Evs.cons (Ev.v 0) (Evs.cons (Ev.i 6) Evs.nil))) Evs.nil)) (Tg.name 1) Cds.nil (Ev.call 0 Z.ok h__law_pick (Nat.le_refl _) (Evs.cons (Ev.v 0) (Evs.cons (Ev.lst (Evs.cons Ev.byt (Evs.cons Ev.byt (Evs.cons Ev.byt (Evs.cons Ev.byt (Evs.cons Ev.byt Evs.nil)))))) Evs.nil)))) Evs.nil))) (ExL.cons (Ex.put 2 (Ev.join Ev.byt (Evs.cons (Ev.comp (caps := [0]) ⟨rfl, rfl, rfl, by decide, by decide, by decide, by decide, rfl, by decide⟩ (Ev.prim 0 Z.ok Z.range prim_range (Evs.cons (Ev.call 1 Z.ok h__law_draw (Nat.le_refl _) (Evs.cons (Ev.v 0) (Evs.cons (Ev.i 6) Evs.nil))) Evs.nil)) (Tg.name 1) Cds.nil (Ev.call 0 Z.ok h__law_pick (Nat.le_refl _) (Evs.cons (Ev.v 0) (Evs.cons (Ev.lst (Evs.cons Ev.byt (Evs.cons Ev.byt (Evs.cons Ev.byt (Evs.cons Ev.byt Evs.nil))))) Evs.nil)))) Evs.nil))) (ExL.cons (Ex.ret (Ev.cmp (Ev.ite (Tst.val (Ev.call 2 Z.ok h_format_fits (Nat.le_refl _) (Evs.cons (Ev.v 1) (Evs.cons (Ev.v 2) Evs.nil)))) (Ev.bool true) (Ev.bool false)) (Ev.call 3 Z.ok h__law_fits (Nat.le_refl _) (Evs.cons (Ev.v 1) (Evs.cons (Ev.v 2) Evs.nil))))) ExL.nil)))
theorem k__law_fits_right : FnOk Γ__law_fits_right 42 "_law_fits_right" [("deck", true)] := ⟨by intro pm code doc vs h; obtain ⟨a, rfl⟩ := len1 h; rfl, by decide, rfl, rfl, rfl, rfl, rfl, rfl⟩
theorem d__law_replaced_right {B : Base} {n : Nat} (Z : Glob B) {φ__law_draw : Spec} (h__law_draw : FnN B n "_law_draw" φ__law_draw) {φ__law_pick : Spec} (h__law_pick : FnN B n "_law_pick" φ__law_pick) {φ_format_replaced : Spec} (h_format_replaced : FnN B n "format_replaced" φ_format_replaced) : ExL B n Γ__law_replaced_right (bodyOf 43) (sem__law_replaced_right φ__law_draw φ__law_pick φ_format_replaced) :=
  (ExL.cons (Ex.put 1 (Ev.join Ev.byt (Evs.cons (Ev.comp (caps := [0]) ⟨rfl, rfl, rfl, by decide, by decide, by decide, by decide, rfl, by decide⟩ (Ev.prim 0 Z.ok Z.range prim_range (Evs.cons (Ev.call 1 Z.ok h__law_draw (Nat.le_refl _) (Evs.cons (Ev.v 0) (Evs.cons (Ev.i 6) Evs.nil))) Evs.nil)) (Tg.name 1) Cds.nil (Ev.call 0 Z.ok h__law_pick (Nat.le_refl _) (Evs.cons (Ev.v 0) (Evs.cons (Ev.lst (Evs.cons Ev.byt (Evs.cons Ev.byt (Evs.cons Ev.byt (Evs.cons Ev.byt Evs.nil))))) Evs.nil)))) Evs.nil))) (ExL.cons (Ex.putS [2, 3, 4] (Ev.tup (Evs.cons (Ev.call 2 Z.ok h__law_pick (Nat.le_refl _) (Evs.cons (Ev.v 0) (Evs.cons (Ev.lst (Evs.cons Ev.byt (Evs.cons Ev.byt (Evs.cons Ev.byt (Evs.cons Ev.byt Evs.nil))))) Evs.nil))) (Evs.cons (Ev.call 2 Z.ok h__law_pick (Nat.le_refl _) (Evs.cons (Ev.v 0) (Evs.cons (Ev.lst (Evs.cons Ev.byt (Evs.cons Ev.byt (Evs.cons Ev.byt Evs.nil)))) Evs.nil))) (Evs.cons (Ev.call 2 Z.ok h__law_pick (Nat.le_refl _) (Evs.cons (Ev.v 0) (Evs.cons (Ev.lst (Evs.cons Ev.none (Evs.cons Ev.byt (Evs.cons Ev.byt Evs.nil)))) Evs.nil))) Evs.nil))))) (ExL.cons (Ex.putT (Ev.tup (Evs.cons Ev.byt (Evs.cons (Ev.i 0) Evs.nil))) (Tg.t 2 (Tgs.cons (Tg.name 5) (Tgs.cons (Tg.name 6) Tgs.nil)))) (ExL.cons (Ex.while (Tst.cmp (Ev.v 6) (Ev.prim 3 Z.ok Z.len prim_len (Evs.cons (Ev.v 1) Evs.nil))) (ExL.cons (Ex.put 7 (Ev.slc (Ev.v 1) (Pt.i (Ev.v 6)) (Pt.i (Ev.bin (Ev.v 6) (Ev.prim 3 Z.ok Z.len prim_len (Evs.cons (Ev.v 2) Evs.nil)))))) (ExL.cons (Ex.put 7 (Ev.ite (Tst.cmp (Ev.v 4) Ev.byt) (Ev.prim 4 Z.ok Z.bytes prim_bytes (Evs.cons (Ev.comp (caps := []) ⟨rfl, rfl, rfl, by decide, by decide, by decide, by decide, rfl, by decide⟩ (Ev.v 7) (Tg.name 0) Cds.nil (Ev.ite (Tst.cmp2 (Ev.i 65) (Ev.v 0) (Ev.i 90)) (Ev.bin (Ev.v 0) (Ev.i 32)) (Ev.v 0))) Evs.nil)) (Ev.v 7))) (ExL.cons (Ex.put 8 (Ev.and (Ev.cmp (Ev.v 2) Ev.byt) (Ev.one (Ev.cmp (Ev.v 7) (Ev.v 2))))) (ExL.cons (Ex.putS [5, 6] (Ev.tup (Evs.cons (Ev.bin (Ev.v 5) (Ev.ite (Tst.val (Ev.v 8)) (Ev.v 3) (Ev.slc (Ev.v 1) (Pt.i (Ev.v 6)) (Pt.i (Ev.bin (Ev.v 6) (Ev.i 1)))))) (Evs.cons (Ev.bin (Ev.v 6) (Ev.ite (Tst.val (Ev.v 8)) (Ev.prim 3 Z.ok Z.len prim_len (Evs.cons (Ev.v 2) Evs.nil)) (Ev.i 1))) Evs.nil)))) ExL.nil))))) (ExL.cons (Ex.ret (Ev.cmp (Ev.call 5 Z.ok h_format_replaced (Nat.le_refl _) (Evs.cons (Ev.v 1) (Evs.cons (Ev.bin (Ev.lst (Evs.cons (Ev.v 2) (Evs.cons (Ev.v 3) Evs.nil))) (Ev.ite (Tst.cmp (Ev.v 4) Ev.none) (Ev.lst (Evs.cons (Ev.v 4) Evs.nil)) (Ev.lst Evs.nil))) Evs.nil))) (Ev.v 5))) ExL.nil)))))
theorem k__law_replaced_right : FnOk Γ__law_replaced_right 43 "_law_replaced_right" [("deck", true)] := ⟨by intro pm code doc vs h; obtain ⟨a, rfl⟩ := len1 h; rfl, by decide, rfl, rfl, rfl, rfl, rfl, rfl⟩
theorem d__law_cut {B : Base} {n : Nat} (Z : Glob B)  : ExL B n Γ__law_cut (bodyOf 44) (sem__law_cut ) :=
  (ExL.cons (Ex.putC 3 (caps := [0]) ⟨rfl, rfl, rfl, by decide, by decide, by decide, by decide, rfl, by decide⟩ (Ev.prim 0 Z.ok Z.range prim_range (Evs.cons (Ev.prim 1 Z.ok Z.len prim_len (Evs.cons (Ev.v 0) Evs.nil)) Evs.nil)) (Tg.name 1) (Cds.one (Tst.not (Tst.val (Ev.item (Ev.item (Ev.v 0) (Ev.v 1)) (Ev.i 1))))) (Ev.v 1)) (ExL.cons (Ex.put 4 (Ev.ite (Tst.val (Ev.v 2)) (Ev.slc (Ev.v 3) (Pt.i (Ev.prim 2 Z.ok Z.max prim_max (Evs.cons (Ev.i 0) (Evs.cons (Ev.bin (Ev.prim 1 Z.ok Z.len prim_len (Evs.cons (Ev.v 3) Evs.nil)) (Ev.v 1)) Evs.nil)))) Pt.noneone) (Ev.slc (Ev.v 3) Pt.noneone (Pt.i (Ev.v 1))))) (ExL.cons (Ex.ret (Ev.join Ev.byt (Evs.cons (Ev.comp (caps := [4, 0]) ⟨rfl, rfl, rfl, by decide, by decide, by decide, by decide, rfl, by decide⟩ (Ev.prim 0 Z.ok Z.range prim_range (Evs.cons (Ev.prim 1 Z.ok Z.len prim_len (Evs.cons (Ev.v 0) Evs.nil)) Evs.nil)) (Tg.name 2) (Cds.one (Tst.or (Tst.val (Ev.item (Ev.item (Ev.v 1) (Ev.v 2)) (Ev.i 1))) (Tst.or (Tst.cmp (Ev.v 2) (Ev.v 0)) Tst.or0))) (Ev.item (Ev.item (Ev.v 1) (Ev.v 2)) (Ev.i 0))) Evs.nil))) ExL.nil)))
theorem k__law_cut : FnOk Γ__law_cut 44 "_law_cut" [("pieces", true), ("most", false), ("is_from_end", false)] := ⟨by intro pm code doc vs h; obtain ⟨a, b, c, rfl⟩ := len3 h; rfl, by decide, rfl, rfl, rfl, rfl, rfl, rfl⟩
theorem d__law_cut_right {B : Base} {n : Nat} (Z : Glob B) {φ__law_draw : Spec} (h__law_draw : FnN B n "_law_draw" φ__law_draw) {φ__law_pick : Spec} (h__law_pick : FnN B n "_law_pick" φ__law_pick) {φ_format_width : Spec} (h_format_width : FnN B n "format_width" φ_format_width) {φ__law_cut : Spec} (h__law_cut : FnN B n "_law_cut" φ__law_cut) {φ__law_figures : Spec} (h__law_figures : FnN B n "_law_figures" φ__law_figures) {φ_format_limited : Spec} (h_format_limited : FnN B n "format_limited" φ_format_limited) {φ_format_filled : Spec} (h_format_filled : FnN B n "format_filled" φ_format_filled) {φ_format_cut : Spec} (h_format_cut : FnN B n "format_cut" φ_format_cut) : ExL B n Γ__law_cut_right (bodyOf 45) (sem__law_cut_right φ__law_draw φ__law_pick φ_format_width φ__law_cut φ__law_figures φ_format_limited φ_format_filled φ_format_cut) :=
  (ExL.cons (Ex.put 1 (Ev.lst (Evs.cons (Ev.tup (Evs.cons Ev.byt (Evs.cons (Ev.bool false) Evs.nil))) (Evs.cons (Ev.tup (Evs.cons Ev.byt (Evs.cons (Ev.bool false) Evs.nil))) (Evs.cons (Ev.tup (Evs.cons Ev.byt (Evs.cons (Ev.bool false) Evs.nil))) (Evs.cons (Ev.tup (Evs.cons Ev.byt (Evs.cons (Ev.bool true) Evs.nil))) (Evs.cons (Ev.tup (Evs.cons Ev.byt (Evs.cons (Ev.bool false) Evs.nil))) (Evs.cons (Ev.tup (Evs.cons Ev.byt (Evs.cons (Ev.bool true) Evs.nil))) Evs.nil)))))))) (ExL.cons (Ex.putC 2 (caps := [0, 1]) ⟨rfl, rfl, rfl, by decide, by decide, by decide, by decide, rfl, by decide⟩ (Ev.prim 0 Z.ok Z.range prim_range (Evs.cons (Ev.call 1 Z.ok h__law_draw (Nat.le_refl _) (Evs.cons (Ev.v 0) (Evs.cons (Ev.i 7) Evs.nil))) Evs.nil)) (Tg.name 2) Cds.nil (Ev.call 0 Z.ok h__law_pick (Nat.le_refl _) (Evs.cons (Ev.v 0) (Evs.cons (Ev.v 1) Evs.nil)))) (ExL.cons (Ex.putS [3, 4] (Ev.tup (Evs.cons (Ev.join Ev.byt (Evs.cons (Ev.comp (caps := []) ⟨rfl, rfl, rfl, by decide, by decide, by decide, by decide, rfl, by decide⟩ (Ev.v 2) (Tg.name 0) Cds.nil (Ev.item (Ev.v 0) (Ev.i 0))) Evs.nil)) (Evs.cons (Ev.prim 2 Z.ok Z.len prim_len (Evs.cons (Ev.comp (caps := []) ⟨rfl, rfl, rfl, by decide, by decide, by decide, by decide, rfl, by decide⟩ (Ev.v 2) (Tg.name 0) (Cds.one (Tst.not (Tst.val (Ev.item (Ev.v 0) (Ev.i 1))))) (Ev.v 0)) Evs.nil)) Evs.nil)))) (ExL.cons (Ex.putS [5, 6] (Ev.tup (Evs.cons (Ev.bin (Ev.call 1 Z.ok h__law_draw (Nat.le_refl _) (Evs.cons (Ev.v 0) (Evs.cons (Ev.i 9) Evs.nil))) (Ev.i 4)) (Evs.cons (Ev.call 3 Z.ok h__law_pick (Nat.le_refl _) (Evs.cons (Ev.v 0) (Evs.cons (Ev.lst (Evs.cons Ev.none (Evs.cons Ev.byt (Evs.cons Ev.byt Evs.nil)))) Evs.nil))) Evs.nil)))) (ExL.cons (Ex.ite (Tst.cmp (Ev.call 4 Z.ok h_format_width (Nat.le_refl _) (Evs.cons (Ev.v 3) Evs.nil)) (Ev.v 4)) (ExL.cons (Ex.ret (Ev.bool false)) ExL.nil) ExL.nil) (ExL.cons (Ex.put 7 (Ev.v 3)) (ExL.cons (Ex.ite (Tst.cmp2 (Ev.v 4) (Ev.prim 5 Z.ok Z.abs prim_abs (Evs.cons (Ev.v 5) Evs.nil)) (Ev.i 0)) (ExL.cons (Ex.put 8 (Ev.call 6 Z.ok h__law_cut (Nat.le_refl _) (Evs.cons (Ev.v 2) (Evs.cons (Ev.prim 5 Z.ok Z.abs prim_abs (Evs.cons (Ev.v 5) Evs.nil)) (Evs.cons (Ev.cmp (Ev.v 5) (Ev.i 0)) Evs.nil))))) (ExL.cons (Ex.put 9 (Ev.ite (Tst.cmp (Ev.v 6) Ev.none) (Ev.v 6) Ev.byt)) (ExL.cons (Ex.put 7 (Ev.ite (Tst.cmp (Ev.v 5) (Ev.i 0)) (Ev.bin (Ev.v 9) (Ev.v 8)) (Ev.bin (Ev.v 8) (Ev.v 9)))) ExL.nil))) ExL.nil) (ExL.cons (Ex.put 10 (Ev.bin (Ev.lst (Evs.cons (Ev.call 7 Z.ok h__law_figures (Nat.le_refl _) (Evs.cons (Ev.v 5) Evs.nil)) Evs.nil)) (Ev.ite (Tst.cmp (Ev.v 6) Ev.none) (Ev.lst (Evs.cons (Ev.v 6) Evs.nil)) (Ev.lst Evs.nil)))) (ExL.cons (Ex.ite (Tst.or (Tst.cmp (Ev.call 8 Z.ok h_format_limited (Nat.le_refl _) (Evs.cons (Ev.v 3) (Evs.cons (Ev.v 10) Evs.nil))) (Ev.v 7)) (Tst.or (Tst.cmp (Ev.call 8 Z.ok h_format_limited (Nat.le_refl _) (Evs.cons (Ev.v 3) (Evs.cons (Ev.lst Evs.nil) Evs.nil))) (Ev.v 3)) (Tst.or (Tst.cmp (Ev.call 8 Z.ok h_format_limited (Nat.le_refl _) (Evs.cons (Ev.v 3) (Evs.cons (Ev.lst (Evs.cons Ev.byt Evs.nil)) Evs.nil))) (Ev.v 3)) Tst.or0))) (ExL.cons (Ex.ret (Ev.bool false)) ExL.nil) ExL.nil) (ExL.cons (Ex.put 11 (Ev.bin Ev.byt (Ev.bin (Ev.bin (Ev.prim 5 Z.ok Z.abs prim_abs (Evs.cons (Ev.v 5) Evs.nil)) (Ev.i 2)) (Ev.v 4)))) (ExL.cons (Ex.put 12 (Ev.bin (Ev.prim 5 Z.ok Z.abs prim_abs (Evs.cons (Ev.v 5) Evs.nil)) (Ev.i 2))) (ExL.cons (Ex.ite (Tst.or (Tst.cmp (Ev.call 9 Z.ok h_format_filled (Nat.le_refl _) (Evs.cons (Ev.v 3) (Evs.cons (Ev.lst (Evs.cons (Ev.call 7 Z.ok h__law_figures (Nat.le_refl _) (Evs.cons (Ev.v 12) Evs.nil)) Evs.nil)) Evs.nil))) (Ev.bin (Ev.v 3) (Ev.v 11))) (Tst.or (Tst.cmp (Ev.call 9 Z.ok h_format_filled (Nat.le_refl _) (Evs.cons (Ev.v 3) (Evs.cons (Ev.lst (Evs.cons (Ev.call 7 Z.ok h__law_figures (Nat.le_refl _) (Evs.cons (Ev.bin (Ev.i 0) (Ev.v 12)) Evs.nil)) Evs.nil)) Evs.nil))) (Ev.bin (Ev.v 11) (Ev.v 3))) Tst.or0)) (ExL.cons (Ex.ret (Ev.bool false)) ExL.nil) ExL.nil) (ExL.cons (Ex.put 13 (Ev.cmp (Ev.call 1 Z.ok h__law_draw (Nat.le_refl _) (Evs.cons (Ev.v 0) (Evs.cons (Ev.i 2) Evs.nil))) (Ev.i 0))) (ExL.cons (Ex.ret (Ev.cmp (Ev.call 10 Z.ok h_format_cut (Nat.le_refl _) (Evs.cons (Ev.v 3) (Evs.cons (Ev.prim 5 Z.ok Z.abs prim_abs (Evs.cons (Ev.v 5) Evs.nil)) (Evs.cons (Ev.v 13) Evs.nil)))) (Ev.call 6 Z.ok h__law_cut (Nat.le_refl _) (Evs.cons (Ev.v 2) (Evs.cons (Ev.prim 5 Z.ok Z.abs prim_abs (Evs.cons (Ev.v 5) Evs.nil)) (Evs.cons (Ev.v 13) Evs.nil)))))) ExL.nil))))))))))))))
theorem k__law_cut_right : FnOk Γ__law_cut_right 45 "_law_cut_right" [("deck", true)] := ⟨by intro pm code doc vs h; obtain ⟨a, rfl⟩ := len1 h; rfl, by decide, rfl, rfl, rfl, rfl, rfl, rfl⟩
theorem d__law_quoted_right {B : Base} {n : Nat} (Z : Glob B) {φ__law_draw : Spec} (h__law_draw : FnN B n "_law_draw" φ__law_draw) {φ__law_pick : Spec} (h__law_pick : FnN B n "_law_pick" φ__law_pick) {φ_format_quoted : Spec} (h_format_quoted : FnN B n "format_quoted" φ_format_quoted) : ExL B n Γ__law_quoted_right (bodyOf 46) (sem__law_quoted_right φ__law_draw φ__law_pick φ_format_quoted) :=
  (ExL.cons (Ex.put 1 Ev.byt) (ExL.cons (Ex.put 2 (Ev.prim 0 Z.ok Z.bytes prim_bytes (Evs.cons (Ev.comp (caps := [0, 1]) ⟨rfl, rfl, rfl, by decide, by decide, by decide, by decide, rfl, by decide⟩ (Ev.prim 1 Z.ok Z.range prim_range (Evs.cons (Ev.call 2 Z.ok h__law_draw (Nat.le_refl _) (Evs.cons (Ev.v 0) (Evs.cons (Ev.i 7) Evs.nil))) Evs.nil)) (Tg.name 2) Cds.nil (Ev.call 0 Z.ok h__law_pick (Nat.le_refl _) (Evs.cons (Ev.v 0) (Evs.cons (Ev.bin (Ev.prim 1 Z.ok Z.list prim_list (Evs.cons (Ev.v 1) Evs.nil)) (Ev.lst (Evs.cons (Ev.i 97) (Evs.cons (Ev.i 65) (Evs.cons (Ev.i 48) (Evs.cons (Ev.i 45) (Evs.cons (Ev.i 46) (Evs.cons (Ev.i 47) (Evs.cons (Ev.i 93) (Evs.cons (Ev.i 195) (Evs.cons (Ev.i 10) (Evs.cons (Ev.i 58) Evs.nil)))))))))))) Evs.nil)))) Evs.nil))) (ExL.cons (Ex.put 3 (Ev.join Ev.byt (Evs.cons (Ev.comp (caps := [1]) ⟨rfl, rfl, rfl, by decide, by decide, by decide, by decide, rfl, by decide⟩ (Ev.v 2) (Tg.name 1) Cds.nil (Ev.bin (Ev.ite (Tst.cmp (Ev.v 1) (Ev.v 0)) Ev.byt Ev.byt) (Ev.prim 0 Z.ok Z.bytes prim_bytes (Evs.cons (Ev.lst (Evs.cons (Ev.v 1) Evs.nil)) Evs.nil)))) Evs.nil))) (ExL.cons (Ex.put 4 (Ev.join Ev.byt (Evs.cons (Ev.comp (caps := []) ⟨rfl, rfl, rfl, by decide, by decide, by decide, by decide, rfl, by decide⟩ (Ev.v 2) (Tg.name 0) Cds.nil (Ev.bin (Ev.prim 0 Z.ok Z.bytes prim_bytes (Evs.cons (Ev.lst (Evs.cons (Ev.v 0) Evs.nil)) Evs.nil)) (Ev.ite (Tst.cmp (Ev.v 0) (Ev.i 35)) (Ev.i 2) (Ev.i 1)))) Evs.nil))) (ExL.cons (Ex.ret (Ev.and (Ev.cmp (Ev.call 3 Z.ok h_format_quoted (Nat.le_refl _) (Evs.cons (Ev.v 2) (Evs.cons (Ev.bool false) Evs.nil))) (Ev.v 3)) (Ev.one (Ev.cmp (Ev.call 3 Z.ok h_format_quoted (Nat.le_refl _) (Evs.cons (Ev.v 2) (Evs.cons (Ev.bool true) Evs.nil))) (Ev.v 4))))) ExL.nil)))))
theorem k__law_quoted_right : FnOk Γ__law_quoted_right 46 "_law_quoted_right" [("deck", true)] := ⟨by intro pm code doc vs h; obtain ⟨a, rfl⟩ := len1 h; rfl, by decide, rfl, rfl, rfl, rfl, rfl, rfl⟩
theorem d_law {B : Base} {n : Nat} (Z : Glob B) {φ__law_deck : Spec} (h__law_deck : FnN B n "_law_deck" φ__law_deck) {φ__law_draw : Spec} (h__law_draw : FnN B n "_law_draw" φ__law_draw) {φ__law_reckoned_right : Spec} (h__law_reckoned_right : FnN B n "_law_reckoned_right" φ__law_reckoned_right) {φ__law_time_right : Spec} (h__law_time_right : FnN B n "_law_time_right" φ__law_time_right) {φ__law_fits_right : Spec} (h__law_fits_right : FnN B n "_law_fits_right" φ__law_fits_right) {φ__law_replaced_right : Spec} (h__law_replaced_right : FnN B n "_law_replaced_right" φ__law_replaced_right) {φ__law_cut_right : Spec} (h__law_cut_right : FnN B n "_law_cut_right" φ__law_cut_right) {φ__law_quoted_right : Spec} (h__law_quoted_right : FnN B n "_law_quoted_right" φ__law_quoted_right) : ExL B n Γ_law (bodyOf 47) (sem_law φ__law_deck φ__law_draw φ__law_reckoned_right φ__law_time_right φ__law_fits_right φ__law_replaced_right φ__law_cut_right φ__law_quoted_right) :=
  (ExL.cons (Ex.put 1 (Ev.call 0 Z.ok h__law_deck (Nat.le_refl _) (Evs.cons (Ev.v 0) Evs.nil))) (ExL.cons (Ex.put 2 (Ev.call 1 Z.ok h__law_draw (Nat.le_refl _) (Evs.cons (Ev.v 1) (Evs.cons (Ev.i 6) Evs.nil)))) (ExL.cons (Ex.ite (Tst.cmp (Ev.v 2) (Ev.i 0)) (ExL.cons (Ex.ret (Ev.call 2 Z.ok h__law_reckoned_right (Nat.le_refl _) (Evs.cons (Ev.v 1) Evs.nil))) ExL.nil) ExL.nil) (ExL.cons (Ex.ite (Tst.cmp (Ev.v 2) (Ev.i 1)) (ExL.cons (Ex.ret (Ev.call 3 Z.ok h__law_time_right (Nat.le_refl _) (Evs.cons (Ev.v 1) Evs.nil))) ExL.nil) ExL.nil) (ExL.cons (Ex.ite (Tst.cmp (Ev.v 2) (Ev.i 2)) (ExL.cons (Ex.ret (Ev.call 4 Z.ok h__law_fits_right (Nat.le_refl _) (Evs.cons (Ev.v 1) Evs.nil))) ExL.nil) ExL.nil) (ExL.cons (Ex.ite (Tst.cmp (Ev.v 2) (Ev.i 3)) (ExL.cons (Ex.ret (Ev.call 5 Z.ok h__law_replaced_right (Nat.le_refl _) (Evs.cons (Ev.v 1) Evs.nil))) ExL.nil) ExL.nil) (ExL.cons (Ex.ret (Ev.ite (Tst.cmp (Ev.v 2) (Ev.i 4)) (Ev.call 6 Z.ok h__law_cut_right (Nat.le_refl _) (Evs.cons (Ev.v 1) Evs.nil)) (Ev.call 7 Z.ok h__law_quoted_right (Nat.le_refl _) (Evs.cons (Ev.v 1) Evs.nil)))) ExL.nil)))))))
theorem k_law : FnOk Γ_law 47 "law" [("script", false)] := ⟨by intro pm code doc vs h; obtain ⟨a, rfl⟩ := len1 h; rfl, by decide, rfl, rfl, rfl, rfl, rfl, rfl⟩
end

theorem lz' {α} {l : List α} {a : α} : (a :: l)[0]? = some a := rfl
theorem lt' {α} {l : List α} {a : α} {i : Nat} : (a :: l)[i + 1]? = l[i]? := rfl
theorem uz' {α} {l : List α} {a b : α} : (a :: l).set 0 b = b :: l := rfl
theorem ut' {α} {l : List α} {a b : α} {n : Nat} : (a :: l).set (n + 1) b = a :: l.set n b := rfl
theorem nc' {α} {l : List α} {a : α} : (a :: l).length = l.length + 1 := rfl
theorem nn' {α} : ([] : List α).length = 0 := rfl

section
/-- the figures of a number -/
noncomputable def digs (n : Nat) : List UInt8 := if n < 10 then [UInt8.ofNat (48 + n)] else digs (n / 10) ++ [UInt8.ofNat (48 + n % 10)]
termination_by n
noncomputable def dec (n : Int) : List UInt8 := (if n < 0 then [45] else []) ++ digs n.natAbs

/-- low figures first, none for nought -/
noncomputable def lows (n : Nat) : List Int := if n = 0 then [] else ((48 + n % 10 : Nat) : Int) :: lows (n / 10)
termination_by n
decreasing_by lia

theorem lows_zero : lows 0 = [] := by unfold lows; rfl
theorem lows_pos {n : Nat} (h : n ≠ 0) : lows n = ((48 + n % 10 : Nat) : Int) :: lows (n / 10) := by rw [lows, if_neg h]
theorem lows_length (k : Nat) : ∀ n, n < 10 ^ k → (lows n).length ≤ k := by
  induction k with
  | zero => intro n h; have : n = 0 := by simpa using h
            subst this; rw [lows_zero]; exact Nat.le_refl _
  | succ k ih =>
    intro n h
    by_cases hn : n = 0
    · subst hn; rw [lows_zero]; exact Nat.zero_le _
    · rw [lows_pos hn, List.length_cons]
      have := ih (n / 10) (by rw [Nat.div_lt_iff_lt_mul (by decide)]; rw [Nat.pow_succ] at h; exact h)
      lia
theorem loop_decimal (x : Option V) (dk : Option Deck) (Q : Fl → St → Prop) : ∀ (k r : Nat) (acc : List V), r < 10 ^ k → acc.length + k < 1000000 →
    Q .next ⟨[x, some (.int 0), some .own], .live (.lst (acc ++ (lows r).map V.int)), dk⟩ →
    whileN (cmpT .Gt (rd 1) (cst (.int 0))) b_decimal_octets_1 (k + 1) ⟨[x, some (.int r), some .own], .live (.lst acc), dk⟩ Q := by
  intro k
  induction k with
  | zero =>
    intro r acc hr hl h
    have : r = 0 := by simpa using hr
    subst this
    rw [lows_zero] at h
    simp only [List.map_nil, List.append_nil] at h
    unfold whileN
    dsimp only [seq, put, ret', iff', ite', cmpT, cmp, cmp2T, cmpP, cmpEq, cmpNe, cmpLt, cmpLe, cmpGt, cmpGe, cmpIs, cmpNot, cmpIn, rd, rdO, cst, bin, binP, binAdd, binSub, binMul, binDiv, binMod, binAnd, binPow, neg, notE, notT, andT, orT, iteT, tt, vB, vOf, andE, orE, cons', nil', tup', lst', ownL, callF, callP, lenP, absP, maxP, minP, intP, bytesP, octs, rangeP, listP, baP, lenO, bytesO, retO, appL, appB, augI, augO, item, itemP, slc, sliceP, pI, pN, rev, meth, findP, joinP, byts, putT, tN, tT, tNil, tCons, putS, sets, for', iterOf, comp', dkI, dkSet, dkNE, dkPop, dkApp, retDk, intsOf, dget, dNil, dCons, seek, skip, never, St.set, isFresh, lim, V.free, frees, V.isNone, V.isB, inI, inB, lz', lt', uz', ut', nc', nn']
    simpa using h
  | succ k ih =>
    intro r acc hr hl h
    unfold whileN
    dsimp only [seq, put, ret', iff', ite', cmpT, cmp, cmp2T, cmpP, cmpEq, cmpNe, cmpLt, cmpLe, cmpGt, cmpGe, cmpIs, cmpNot, cmpIn, rd, rdO, cst, bin, binP, binAdd, binSub, binMul, binDiv, binMod, binAnd, binPow, neg, notE, notT, andT, orT, iteT, tt, vB, vOf, andE, orE, cons', nil', tup', lst', ownL, callF, callP, lenP, absP, maxP, minP, intP, bytesP, octs, rangeP, listP, baP, lenO, bytesO, retO, appL, appB, augI, augO, item, itemP, slc, sliceP, pI, pN, rev, meth, findP, joinP, byts, putT, tN, tT, tNil, tCons, putS, sets, for', iterOf, comp', dkI, dkSet, dkNE, dkPop, dkApp, retDk, intsOf, dget, dNil, dCons, seek, skip, never, St.set, isFresh, lim, V.free, frees, V.isNone, V.isB, inI, inB, lz', lt', uz', ut', nc', nn']
    by_cases hn : r = 0
    · subst hn
      rw [lows_zero] at h
      simp only [List.map_nil, List.append_nil] at h
      simpa using h
    · have hd : decide (((r : Nat) : Int) > 0) = true := decide_eq_true (by lia)
      rw [hd]
      dsimp only [b_decimal_octets_1, seq, put, ret', iff', ite', cmpT, cmp, cmp2T, cmpP, cmpEq, cmpNe, cmpLt, cmpLe, cmpGt, cmpGe, cmpIs, cmpNot, cmpIn, rd, rdO, cst, bin, binP, binAdd, binSub, binMul, binDiv, binMod, binAnd, binPow, neg, notE, notT, andT, orT, iteT, tt, vB, vOf, andE, orE, cons', nil', tup', lst', ownL, callF, callP, lenP, absP, maxP, minP, intP, bytesP, octs, rangeP, listP, baP, lenO, bytesO, retO, appL, appB, augI, augO, item, itemP, slc, sliceP, pI, pN, rev, meth, findP, joinP, byts, putT, tN, tT, tNil, tCons, putS, sets, for', iterOf, comp', dkI, dkSet, dkNE, dkPop, dkApp, retDk, intsOf, dget, dNil, dCons, seek, skip, never, St.set, isFresh, lim, V.free, frees, V.isNone, V.isB, inI, inB, lz', lt', uz', ut', nc', nn']
      refine ⟨by decide, by lia, by decide, by decide, ?_⟩
      have e1 : ((r : Nat) : Int).fmod 10 = ((r % 10 : Nat) : Int) := by rw [Int.fmod_eq_emod_of_nonneg _ (by decide)]; lia
      have e2 : ((r : Nat) : Int).fdiv 10 = ((r / 10 : Nat) : Int) := by rw [Int.fdiv_eq_ediv_of_nonneg _ (by decide)]; lia
      rw [e1, e2]
      refine ih (r / 10) _ (by rw [Nat.div_lt_iff_lt_mul (by decide)]; rw [Nat.pow_succ] at hr; exact hr) (by simp only [List.length_append, List.length_cons, List.length_nil]; lia) ?_
      rw [lows_pos hn] at h
      simpa using h

theorem u8_toNat (m : Nat) : ((48 + m % 10 : Nat) : Int).toNat.toUInt8 = UInt8.ofNat (48 + m % 10) := by
  have : ((48 + m % 10 : Nat) : Int).toNat = 48 + m % 10 := by lia
  rw [this]
theorem digs_lt {n : Nat} (h : n < 10) : digs n = [UInt8.ofNat (48 + n % 10)] := by
  rw [digs, if_pos h]; congr 2; rw [Nat.mod_eq_of_lt h]
theorem digs_ge {n : Nat} (h : ¬ n < 10) : digs n = digs (n / 10) ++ [UInt8.ofNat (48 + n % 10)] := by rw [digs, if_neg h]

theorem octs_append : ∀ (xs ys : List V) (Q : List UInt8 → Prop), octs xs (fun b => octs ys fun c => Q (b ++ c)) → octs (xs ++ ys) Q
  | [], ys, Q, h => by simpa [octs] using h
  | .int i :: xs, ys, Q, h => by
    dsimp only [octs, List.cons_append] at h ⊢
    exact ⟨h.1, octs_append xs ys _ h.2⟩
  | .none :: xs, ys, Q, h => by simp [octs] at h
  | .bool _ :: xs, ys, Q, h => by simp [octs] at h
  | .byt _ :: xs, ys, Q, h => by simp [octs] at h
  | .tup _ :: xs, ys, Q, h => by simp [octs] at h
  | .lst _ :: xs, ys, Q, h => by simp [octs] at h
  | .rng _ :: xs, ys, Q, h => by simp [octs] at h
  | .own :: xs, ys, Q, h => by simp [octs] at h
  | .deck :: xs, ys, Q, h => by simp [octs] at h

theorem octs_lows (n : Nat) : ∀ (Q : List UInt8 → Prop), Q (digs n) → octs (((lows (n / 10)).map V.int).reverse ++ [.int ((48 + n % 10 : Nat) : Int)]) Q := by
  induction n using Nat.strongRecOn with
  | ind n ih =>
    intro Q h
    by_cases hn : n < 10
    · rw [show n / 10 = 0 by lia, lows_zero]
      rw [digs_lt hn] at h
      simp only [List.map_nil, List.reverse_nil, List.nil_append, octs]
      refine ⟨by lia, ?_⟩
      rw [u8_toNat]; exact h
    · rw [lows_pos (show n / 10 ≠ 0 by lia), List.map_cons, List.reverse_cons]
      refine octs_append _ _ _ ?_
      refine ih (n / 10) (by lia) _ ?_
      dsimp only [octs]
      refine ⟨by lia, ?_⟩
      rw [u8_toNat, ← digs_ge hn]; exact h

theorem pure_decimal (n : Int) (hn : n.natAbs < 10 ^ 1000) (dk : Option Deck) (Q : V → Option Deck → Prop) (h : Q (.byt (dec n)) dk) : entry Γ_decimal_octets 1 sem_decimal_octets [.int n] dk Q := by
  unfold entry sem_decimal_octets
  refine ⟨rfl, ?_⟩
  rw [show start Γ_decimal_octets [.int n] dk = ⟨[some (.int n), none, none], .fresh, dk⟩ from rfl]
  unfold t_decimal_octets_0
  dsimp only [seq, put, ret', iff', ite', cmpT, cmp, cmp2T, cmpP, cmpEq, cmpNe, cmpLt, cmpLe, cmpGt, cmpGe, cmpIs, cmpNot, cmpIn, rd, rdO, cst, bin, binP, binAdd, binSub, binMul, binDiv, binMod, binAnd, binPow, neg, notE, notT, andT, orT, iteT, tt, vB, vOf, andE, orE, cons', nil', tup', lst', ownL, callF, callP, lenP, absP, maxP, minP, intP, bytesP, octs, rangeP, listP, baP, lenO, bytesO, retO, appL, appB, augI, augO, item, itemP, slc, sliceP, pI, pN, rev, meth, findP, joinP, byts, putT, tN, tT, tNil, tCons, putS, sets, for', iterOf, comp', dkI, dkSet, dkNE, dkPop, dkApp, retDk, intsOf, dget, dNil, dCons, seek, skip, never, St.set, isFresh, lim, V.free, frees, V.isNone, V.isB, inI, inB, lz', lt', uz', ut', nc', nn']
  have e1 : ((n.natAbs : Nat) : Int).fmod 10 = ((n.natAbs % 10 : Nat) : Int) := by rw [Int.fmod_eq_emod_of_nonneg _ (by decide)]; lia
  have e2 : ((n.natAbs : Nat) : Int).fdiv 10 = ((n.natAbs / 10 : Nat) : Int) := by rw [Int.fdiv_eq_ediv_of_nonneg _ (by decide)]; lia
  have hl := lows_length 1000 (n.natAbs / 10) (by lia)
  have key : t_decimal_octets_1 ⟨[some (.int n), some (.int n.natAbs), none], .fresh, dk⟩ (fun fl st => match fl with
    | .next => Q .none st.dk
    | .ret d => d.free = true ∧ Q d st.dk) := by
    unfold t_decimal_octets_1
    dsimp only [seq, put, ret', iff', ite', cmpT, cmp, cmp2T, cmpP, cmpEq, cmpNe, cmpLt, cmpLe, cmpGt, cmpGe, cmpIs, cmpNot, cmpIn, rd, rdO, cst, bin, binP, binAdd, binSub, binMul, binDiv, binMod, binAnd, binPow, neg, notE, notT, andT, orT, iteT, tt, vB, vOf, andE, orE, cons', nil', tup', lst', ownL, callF, callP, lenP, absP, maxP, minP, intP, bytesP, octs, rangeP, listP, baP, lenO, bytesO, retO, appL, appB, augI, augO, item, itemP, slc, sliceP, pI, pN, rev, meth, findP, joinP, byts, putT, tN, tT, tNil, tCons, putS, sets, for', iterOf, comp', dkI, dkSet, dkNE, dkPop, dkApp, retDk, intsOf, dget, dNil, dCons, seek, skip, never, St.set, isFresh, lim, V.free, frees, V.isNone, V.isB, inI, inB, lz', lt', uz', ut', nc', nn']
    refine ⟨by decide, trivial, by decide, ?_⟩
    unfold t_decimal_octets_2
    dsimp only [seq, put, ret', iff', ite', cmpT, cmp, cmp2T, cmpP, cmpEq, cmpNe, cmpLt, cmpLe, cmpGt, cmpGe, cmpIs, cmpNot, cmpIn, rd, rdO, cst, bin, binP, binAdd, binSub, binMul, binDiv, binMod, binAnd, binPow, neg, notE, notT, andT, orT, iteT, tt, vB, vOf, andE, orE, cons', nil', tup', lst', ownL, callF, callP, lenP, absP, maxP, minP, intP, bytesP, octs, rangeP, listP, baP, lenO, bytesO, retO, appL, appB, augI, augO, item, itemP, slc, sliceP, pI, pN, rev, meth, findP, joinP, byts, putT, tN, tT, tNil, tCons, putS, sets, for', iterOf, comp', dkI, dkSet, dkNE, dkPop, dkApp, retDk, intsOf, dget, dNil, dCons, seek, skip, never, St.set, isFresh, lim, V.free, frees, V.isNone, V.isB, inI, inB, lz', lt', uz', ut', nc', nn']
    refine ⟨by decide, by decide, ?_⟩
    unfold t_decimal_octets_3
    dsimp only [seq]
    refine ⟨1001, ?_⟩
    rw [e1, e2]
    refine loop_decimal _ _ _ 1000 (n.natAbs / 10) _ (by lia) (by simp) ?_
    unfold t_decimal_octets_4
    dsimp only [seq, put, ret', iff', ite', cmpT, cmp, cmp2T, cmpP, cmpEq, cmpNe, cmpLt, cmpLe, cmpGt, cmpGe, cmpIs, cmpNot, cmpIn, rd, rdO, cst, bin, binP, binAdd, binSub, binMul, binDiv, binMod, binAnd, binPow, neg, notE, notT, andT, orT, iteT, tt, vB, vOf, andE, orE, cons', nil', tup', lst', ownL, callF, callP, lenP, absP, maxP, minP, intP, bytesP, octs, rangeP, listP, baP, lenO, bytesO, retO, appL, appB, augI, augO, item, itemP, slc, sliceP, pI, pN, rev, meth, findP, joinP, byts, putT, tN, tT, tNil, tCons, putS, sets, for', iterOf, comp', dkI, dkSet, dkNE, dkPop, dkApp, retDk, intsOf, dget, dNil, dCons, seek, skip, never, St.set, isFresh, lim, V.free, frees, V.isNone, V.isB, inI, inB, lz', lt', uz', ut', nc', nn']
    have fin : ∀ xs : List V, xs.length ≤ 1000000 → octs xs.reverse (fun b => Q (.byt b) dk) → t_decimal_octets_5 ⟨[some (.int n), some (.int 0), some .own], .live (.lst xs), dk⟩ (fun fl st => match fl with
      | .next => Q .none st.dk
      | .ret d => d.free = true ∧ Q d st.dk) := by
      intro xs hx hq
      unfold t_decimal_octets_5
      dsimp only [seq, put, ret', iff', ite', cmpT, cmp, cmp2T, cmpP, cmpEq, cmpNe, cmpLt, cmpLe, cmpGt, cmpGe, cmpIs, cmpNot, cmpIn, rd, rdO, cst, bin, binP, binAdd, binSub, binMul, binDiv, binMod, binAnd, binPow, neg, notE, notT, andT, orT, iteT, tt, vB, vOf, andE, orE, cons', nil', tup', lst', ownL, callF, callP, lenP, absP, maxP, minP, intP, bytesP, octs, rangeP, listP, baP, lenO, bytesO, retO, appL, appB, augI, augO, item, itemP, slc, sliceP, pI, pN, rev, meth, findP, joinP, byts, putT, tN, tT, tNil, tCons, putS, sets, for', iterOf, comp', dkI, dkSet, dkNE, dkPop, dkApp, retDk, intsOf, dget, dNil, dCons, seek, skip, never, St.set, isFresh, lim, V.free, frees, V.isNone, V.isB, inI, inB, lz', lt', uz', ut', nc', nn']
      exact ⟨hx, by simpa using hx, by simpa using hq⟩
    by_cases hneg : n < 0
    · simp only [hneg, decide_true]
      refine ⟨by simp; lia, fin _ (by simp; lia) ?_⟩
      have := octs_lows n.natAbs (fun b => Q (.byt (45 :: b)) dk) (by
        have e : dec n = 45 :: digs n.natAbs := by unfold dec; rw [if_pos hneg]; rfl
        rw [← e]; exact h)
      rw [List.reverse_append, List.reverse_cons, List.reverse_nil, List.nil_append, List.singleton_append]
      dsimp only [octs]
      refine ⟨by decide, ?_⟩
      simpa using this
    · simp only [hneg, decide_false]
      refine fin _ (by simp; lia) ?_
      have := octs_lows n.natAbs (fun b => Q (.byt b) dk) (by
        have e : dec n = digs n.natAbs := by unfold dec; rw [if_neg hneg]; rfl
        rw [← e]; exact h)
      simpa using this
  by_cases hpos : n ≥ 0
  · simp only [hpos, decide_true]
    rw [show ((n.natAbs : Nat) : Int) = n by lia] at key
    exact key
  · simp only [hpos, decide_false]
    rw [show ((n.natAbs : Nat) : Int) = -n by lia] at key
    exact key
end

section
set_option exponentiation.threshold 2000
-- slices
theorem cut_to {α : Type} (xs : List α) (k : Nat) : cut xs none (some (k : Int)) = xs.take k := by
  unfold cut clipAt
  simp only [Option.elim_none, Option.elim_some, List.drop_zero, Nat.sub_zero]
  have h : (max 0 (min (if ((k : Nat) : Int) < 0 then ((k : Nat) : Int) + (xs.length : Int) else ((k : Nat) : Int)) (xs.length : Int))).toNat = min k xs.length := by
    rw [if_neg (by lia)]; lia
  rw [h, ← List.take_take, List.take_length]
theorem cut_from {α : Type} (xs : List α) (k : Nat) : cut xs (some (k : Int)) none = xs.drop k := by
  unfold cut clipAt
  simp only [Option.elim_none, Option.elim_some]
  have h : (max 0 (min (if ((k : Nat) : Int) < 0 then ((k : Nat) : Int) + (xs.length : Int) else ((k : Nat) : Int)) (xs.length : Int))).toNat = min k xs.length := by
    rw [if_neg (by lia)]; lia
  rw [h, List.take_of_length_le (by rw [List.length_drop]; lia)]
  rcases Nat.le_total k xs.length with hk | hk
  · rw [Nat.min_eq_left hk]
  · rw [Nat.min_eq_right hk, List.drop_length, List.drop_eq_nil_of_le hk]
theorem cut_mid {α : Type} (xs : List α) (i j : Nat) : cut xs (some (i : Int)) (some (j : Int)) = (xs.drop i).take (j - i) := by
  unfold cut clipAt
  simp only [Option.elim_none, Option.elim_some]
  have h : ∀ k : Nat, (max 0 (min (if ((k : Nat) : Int) < 0 then ((k : Nat) : Int) + (xs.length : Int) else ((k : Nat) : Int)) (xs.length : Int))).toNat = min k xs.length := by
    intro k; rw [if_neg (by lia)]; lia
  rw [h, h]
  rcases Nat.le_total i xs.length with hi | hi
  · rw [Nat.min_eq_left hi]
    rcases Nat.le_total j xs.length with hj | hj
    · rw [Nat.min_eq_left hj]
    · rw [Nat.min_eq_right hj, List.take_of_length_le (by rw [List.length_drop]; lia), List.take_of_length_le (by rw [List.length_drop]; lia)]
  · rw [Nat.min_eq_right hi, List.drop_length, List.drop_eq_nil_of_le hi]; simp
theorem fmod10 (n : Nat) : ((n : Nat) : Int).fmod 10 = ((n % 10 : Nat) : Int) := by rw [Int.fmod_eq_emod_of_nonneg _ (by decide)]; lia
theorem fdiv10 (n : Nat) : ((n : Nat) : Int).fdiv 10 = ((n / 10 : Nat) : Int) := by rw [Int.fdiv_eq_ediv_of_nonneg _ (by decide)]; lia

theorem u8_48 (m : Nat) : ((48 : Int) + ((m % 10 : Nat) : Int)).toNat.toUInt8 = UInt8.ofNat (48 + m % 10) := by
  have : ((48 : Int) + ((m % 10 : Nat) : Int)).toNat = 48 + m % 10 := by lia
  rw [this]
theorem nil_beq : (([] : List UInt8) == []) = true := rfl
-- specs
noncomputable def Dec : Spec := fun ds dk Q => ∃ n : Int, ds = [.int n] ∧ n.natAbs < 10 ^ 1000 ∧ Q (.byt (dec n)) dk
theorem fDec {ds dk Q} (h : Dec ds dk Q) : entry Γ_decimal_octets 1 sem_decimal_octets ds dk Q := by
  obtain ⟨n, rfl, hn, h⟩ := h
  exact pure_decimal n hn dk Q h

-- figures
theorem loop_figures (x : Option V) (dk : Option Deck) (Q : Fl → St → Prop) : ∀ (k r : Nat) (acc : List UInt8), (r ≠ 0 ∨ acc = []) → r < 10 ^ (k + 1) → acc.length + k < 1000000 →
    Q .next ⟨[x, some (.byt (digs r ++ acc)), some (.int 0)], .fresh, dk⟩ →
    whileN (orT (cmpT .Gt (rd 2) (cst (.int 0))) (orT (cmpT .Eq (rd 1) (cst (.byt []))) (tt false))) b__law_figures_1 (k + 2) ⟨[x, some (.byt acc), some (.int r)], .fresh, dk⟩ Q := by
  intro k
  induction k with
  | zero =>
    intro r acc hc hr hl h
    have hr' : r < 10 := by simpa using hr
    unfold whileN
    dsimp only [seq, put, ret', iff', ite', cmpT, cmp, cmp2T, cmpP, cmpEq, cmpNe, cmpLt, cmpLe, cmpGt, cmpGe, cmpIs, cmpNot, cmpIn, rd, rdO, cst, bin, binP, binAdd, binSub, binMul, binDiv, binMod, binAnd, binPow, neg, notE, notT, andT, orT, iteT, tt, vB, vOf, andE, orE, cons', nil', tup', lst', ownL, callF, callP, lenP, absP, maxP, minP, intP, bytesP, octs, rangeP, listP, baP, lenO, bytesO, retO, appL, appB, augI, augO, item, itemP, slc, sliceP, pI, pN, rev, meth, findP, joinP, byts, putT, tN, tT, tNil, tCons, putS, sets, for', iterOf, comp', dkI, dkSet, dkNE, dkPop, dkApp, retDk, intsOf, dget, dNil, dCons, seek, skip, never, St.set, isFresh, lim, V.free, frees, V.isNone, V.isB, inI, inB, lz', lt', uz', ut', nc', nn']
    have go : b__law_figures_1 ⟨[x, some (.byt acc), some (.int r)], .fresh, dk⟩ (fun fl st₂ => match fl with
        | .next => whileN (orT (cmpT .Gt (rd 2) (cst (.int 0))) (orT (cmpT .Eq (rd 1) (cst (.byt []))) (tt false))) b__law_figures_1 1 st₂ Q
        | .ret d => Q (.ret d) st₂) := by
      (dsimp only [b__law_figures_1, seq, put, ret', iff', ite', cmpT, cmp, cmp2T, cmpP, cmpEq, cmpNe, cmpLt, cmpLe, cmpGt, cmpGe, cmpIs, cmpNot, cmpIn, rd, rdO, cst, bin, binP, binAdd, binSub, binMul, binDiv, binMod, binAnd, binPow, neg, notE, notT, andT, orT, iteT, tt, vB, vOf, andE, orE, cons', nil', tup', lst', ownL, callF, callP, lenP, absP, maxP, minP, intP, bytesP, octs, rangeP, listP, baP, lenO, bytesO, retO, appL, appB, augI, augO, item, itemP, slc, sliceP, pI, pN, rev, meth, findP, joinP, byts, putT, tN, tT, tNil, tCons, putS, sets, for', iterOf, comp', dkI, dkSet, dkNE, dkPop, dkApp, retDk, intsOf, dget, dNil, dCons, seek, skip, never, St.set, isFresh, lim, V.free, frees, V.isNone, V.isB, inI, inB, lz', lt', uz', ut', nc', nn']; simp only)
      rw [fmod10, fdiv10]
      refine ⟨by decide, by decide, by decide, by lia, by lia, by decide, by decide, by decide, trivial, ?_⟩
      simp only [List.reverse_cons, List.reverse_nil, List.nil_append, List.cons_append, seq, put, ret', iff', ite', cmpT, cmp, cmp2T, cmpP, cmpEq, cmpNe, cmpLt, cmpLe, cmpGt, cmpGe, cmpIs, cmpNot, cmpIn, rd, rdO, cst, bin, binP, binAdd, binSub, binMul, binDiv, binMod, binAnd, binPow, neg, notE, notT, andT, orT, iteT, tt, vB, vOf, andE, orE, cons', nil', tup', lst', ownL, callF, callP, lenP, absP, maxP, minP, intP, bytesP, octs, rangeP, listP, baP, lenO, bytesO, retO, appL, appB, augI, augO, item, itemP, slc, sliceP, pI, pN, rev, meth, findP, joinP, byts, putT, tN, tT, tNil, tCons, putS, sets, for', iterOf, comp', dkI, dkSet, dkNE, dkPop, dkApp, retDk, intsOf, dget, dNil, dCons, seek, skip, never, St.set, isFresh, lim, V.free, frees, V.isNone, V.isB, inI, inB, lz', lt', uz', ut', nc', nn']
      rw [u8_48, show r / 10 = 0 by lia]
      rw [digs_lt hr'] at h
      unfold whileN
      (dsimp only [seq, put, ret', iff', ite', cmpT, cmp, cmp2T, cmpP, cmpEq, cmpNe, cmpLt, cmpLe, cmpGt, cmpGe, cmpIs, cmpNot, cmpIn, rd, rdO, cst, bin, binP, binAdd, binSub, binMul, binDiv, binMod, binAnd, binPow, neg, notE, notT, andT, orT, iteT, tt, vB, vOf, andE, orE, cons', nil', tup', lst', ownL, callF, callP, lenP, absP, maxP, minP, intP, bytesP, octs, rangeP, listP, baP, lenO, bytesO, retO, appL, appB, augI, augO, item, itemP, slc, sliceP, pI, pN, rev, meth, findP, joinP, byts, putT, tN, tT, tNil, tCons, putS, sets, for', iterOf, comp', dkI, dkSet, dkNE, dkPop, dkApp, retDk, intsOf, dget, dNil, dCons, seek, skip, never, St.set, isFresh, lim, V.free, frees, V.isNone, V.isB, inI, inB, lz', lt', uz', ut', nc', nn']; simp only)
      simpa using h
    by_cases h0 : ((r : Nat) : Int) > 0
    · simp only [h0, decide_true]; exact go
    · simp only [h0, decide_false]
      have : acc = [] := by rcases hc with hc | hc; lia; exact hc
      subst this
      simp only [nil_beq]
      exact go
  | succ k ih =>
    intro r acc hc hr hl h
    unfold whileN
    dsimp only [seq, put, ret', iff', ite', cmpT, cmp, cmp2T, cmpP, cmpEq, cmpNe, cmpLt, cmpLe, cmpGt, cmpGe, cmpIs, cmpNot, cmpIn, rd, rdO, cst, bin, binP, binAdd, binSub, binMul, binDiv, binMod, binAnd, binPow, neg, notE, notT, andT, orT, iteT, tt, vB, vOf, andE, orE, cons', nil', tup', lst', ownL, callF, callP, lenP, absP, maxP, minP, intP, bytesP, octs, rangeP, listP, baP, lenO, bytesO, retO, appL, appB, augI, augO, item, itemP, slc, sliceP, pI, pN, rev, meth, findP, joinP, byts, putT, tN, tT, tNil, tCons, putS, sets, for', iterOf, comp', dkI, dkSet, dkNE, dkPop, dkApp, retDk, intsOf, dget, dNil, dCons, seek, skip, never, St.set, isFresh, lim, V.free, frees, V.isNone, V.isB, inI, inB, lz', lt', uz', ut', nc', nn']
    have go : b__law_figures_1 ⟨[x, some (.byt acc), some (.int r)], .fresh, dk⟩ (fun fl st₂ => match fl with
        | .next => whileN (orT (cmpT .Gt (rd 2) (cst (.int 0))) (orT (cmpT .Eq (rd 1) (cst (.byt []))) (tt false))) b__law_figures_1 (k + 2) st₂ Q
        | .ret d => Q (.ret d) st₂) := by
      (dsimp only [b__law_figures_1, seq, put, ret', iff', ite', cmpT, cmp, cmp2T, cmpP, cmpEq, cmpNe, cmpLt, cmpLe, cmpGt, cmpGe, cmpIs, cmpNot, cmpIn, rd, rdO, cst, bin, binP, binAdd, binSub, binMul, binDiv, binMod, binAnd, binPow, neg, notE, notT, andT, orT, iteT, tt, vB, vOf, andE, orE, cons', nil', tup', lst', ownL, callF, callP, lenP, absP, maxP, minP, intP, bytesP, octs, rangeP, listP, baP, lenO, bytesO, retO, appL, appB, augI, augO, item, itemP, slc, sliceP, pI, pN, rev, meth, findP, joinP, byts, putT, tN, tT, tNil, tCons, putS, sets, for', iterOf, comp', dkI, dkSet, dkNE, dkPop, dkApp, retDk, intsOf, dget, dNil, dCons, seek, skip, never, St.set, isFresh, lim, V.free, frees, V.isNone, V.isB, inI, inB, lz', lt', uz', ut', nc', nn']; simp only)
      rw [fmod10, fdiv10]
      refine ⟨by decide, by decide, by decide, by lia, by lia, by decide, by decide, by decide, trivial, ?_⟩
      simp only [List.reverse_cons, List.reverse_nil, List.nil_append, List.cons_append, seq, put, ret', iff', ite', cmpT, cmp, cmp2T, cmpP, cmpEq, cmpNe, cmpLt, cmpLe, cmpGt, cmpGe, cmpIs, cmpNot, cmpIn, rd, rdO, cst, bin, binP, binAdd, binSub, binMul, binDiv, binMod, binAnd, binPow, neg, notE, notT, andT, orT, iteT, tt, vB, vOf, andE, orE, cons', nil', tup', lst', ownL, callF, callP, lenP, absP, maxP, minP, intP, bytesP, octs, rangeP, listP, baP, lenO, bytesO, retO, appL, appB, augI, augO, item, itemP, slc, sliceP, pI, pN, rev, meth, findP, joinP, byts, putT, tN, tT, tNil, tCons, putS, sets, for', iterOf, comp', dkI, dkSet, dkNE, dkPop, dkApp, retDk, intsOf, dget, dNil, dCons, seek, skip, never, St.set, isFresh, lim, V.free, frees, V.isNone, V.isB, inI, inB, lz', lt', uz', ut', nc', nn']
      rw [u8_48]
      by_cases hs : r < 10
      · rw [show r / 10 = 0 by lia]
        rw [digs_lt hs] at h
        unfold whileN
        (dsimp only [seq, put, ret', iff', ite', cmpT, cmp, cmp2T, cmpP, cmpEq, cmpNe, cmpLt, cmpLe, cmpGt, cmpGe, cmpIs, cmpNot, cmpIn, rd, rdO, cst, bin, binP, binAdd, binSub, binMul, binDiv, binMod, binAnd, binPow, neg, notE, notT, andT, orT, iteT, tt, vB, vOf, andE, orE, cons', nil', tup', lst', ownL, callF, callP, lenP, absP, maxP, minP, intP, bytesP, octs, rangeP, listP, baP, lenO, bytesO, retO, appL, appB, augI, augO, item, itemP, slc, sliceP, pI, pN, rev, meth, findP, joinP, byts, putT, tN, tT, tNil, tCons, putS, sets, for', iterOf, comp', dkI, dkSet, dkNE, dkPop, dkApp, retDk, intsOf, dget, dNil, dCons, seek, skip, never, St.set, isFresh, lim, V.free, frees, V.isNone, V.isB, inI, inB, lz', lt', uz', ut', nc', nn']; simp only)
        simpa using h
      · refine ih (r / 10) _ (.inl (by lia)) (by rw [Nat.div_lt_iff_lt_mul (by decide)]; rw [Nat.pow_succ] at hr; exact hr) (by simp only [List.length_cons]; lia) ?_
        rw [digs_ge hs] at h
        simpa using h
    by_cases h0 : ((r : Nat) : Int) > 0
    · simp only [h0, decide_true]; exact go
    · simp only [h0, decide_false]
      have : acc = [] := by rcases hc with hc | hc; lia; exact hc
      subst this
      simp only [nil_beq]
      exact go
theorem fFig {ds dk Q} (h : Dec ds dk Q) : entry Γ__law_figures 1 sem__law_figures ds dk Q := by
  obtain ⟨n, rfl, hn, h⟩ := h
  unfold entry sem__law_figures
  refine ⟨rfl, ?_⟩
  rw [show start Γ__law_figures [.int n] dk = ⟨[some (.int n), none, none], .fresh, dk⟩ from rfl]
  unfold t__law_figures_0
  (dsimp only [List.reverse_cons, List.reverse_nil, List.nil_append, List.cons_append, seq, put, ret', iff', ite', cmpT, cmp, cmp2T, cmpP, cmpEq, cmpNe, cmpLt, cmpLe, cmpGt, cmpGe, cmpIs, cmpNot, cmpIn, rd, rdO, cst, bin, binP, binAdd, binSub, binMul, binDiv, binMod, binAnd, binPow, neg, notE, notT, andT, orT, iteT, tt, vB, vOf, andE, orE, cons', nil', tup', lst', ownL, callF, callP, lenP, absP, maxP, minP, intP, bytesP, octs, rangeP, listP, baP, lenO, bytesO, retO, appL, appB, augI, augO, item, itemP, slc, sliceP, pI, pN, rev, meth, findP, joinP, byts, putT, tN, tT, tNil, tCons, putS, sets, for', iterOf, comp', dkI, dkSet, dkNE, dkPop, dkApp, retDk, intsOf, dget, dNil, dCons, seek, skip, never, St.set, isFresh, lim, V.free, frees, V.isNone, V.isB, inI, inB, lz', lt', uz', ut', nc', nn']; simp only)
  refine ⟨by decide, trivial, ?_⟩
  unfold t__law_figures_1
  simp only [seq]
  refine ⟨1001, ?_⟩
  refine loop_figures _ _ _ 999 n.natAbs [] (.inr rfl) hn (by simp) ?_
  unfold t__law_figures_2
  have hl : (digs n.natAbs).length ≤ 1000 := by
    have key : ∀ (k m : Nat), m < 10 ^ k → (digs m).length ≤ max 1 k := by
      intro k
      induction k with
      | zero => intro m hm; have : m = 0 := by simpa using hm
                subst this; rw [digs_lt (by decide)]; simp
      | succ k ih =>
        intro m hm
        by_cases hs : m < 10
        · rw [digs_lt hs]; simp
        · rw [digs_ge hs, List.length_append]
          have := ih (m / 10) (by rw [Nat.div_lt_iff_lt_mul (by decide)]; rw [Nat.pow_succ] at hm; exact hm)
          simp only [List.length_singleton]
          rcases Nat.eq_zero_or_pos k with rfl | hk
          · simp at hm; lia
          · lia
    have := key 1000 _ hn
    lia
  simp only [List.append_nil, seq, put, ret', iff', ite', cmpT, cmp, cmp2T, cmpP, cmpEq, cmpNe, cmpLt, cmpLe, cmpGt, cmpGe, cmpIs, cmpNot, cmpIn, rd, rdO, cst, bin, binP, binAdd, binSub, binMul, binDiv, binMod, binAnd, binPow, neg, notE, notT, andT, orT, iteT, tt, vB, vOf, andE, orE, cons', nil', tup', lst', ownL, callF, callP, lenP, absP, maxP, minP, intP, bytesP, octs, rangeP, listP, baP, lenO, bytesO, retO, appL, appB, augI, augO, item, itemP, slc, sliceP, pI, pN, rev, meth, findP, joinP, byts, putT, tN, tT, tNil, tCons, putS, sets, for', iterOf, comp', dkI, dkSet, dkNE, dkPop, dkApp, retDk, intsOf, dget, dNil, dCons, seek, skip, never, St.set, isFresh, lim, V.free, frees, V.isNone, V.isB, inI, inB, lz', lt', uz', ut', nc', nn']
  unfold dec at h
  by_cases hneg : n < 0
  · simp only [hneg, decide_true]
    rw [if_pos hneg] at h
    exact ⟨by simp; lia, trivial, h⟩
  · simp only [hneg, decide_false]
    rw [if_neg hneg] at h
    exact ⟨by simp; lia, trivial, h⟩
end

section
set_option exponentiation.threshold 2000
noncomputable def parse : List UInt8 → Int → Option Int
  | [], a => some a
  | c :: r, a => if 48 ≤ c.toNat ∧ c.toNat ≤ 57 then parse r (10 * a + c.toNat - 48) else none
noncomputable def numP (b : List UInt8) : Option Int := if b = [] then none else parse b 0
noncomputable def wholeP : List UInt8 → Option Int
  | 45 :: r => (numP r).map fun i => -i
  | b => numP b
noncomputable def optI : Option Int → V
  | none => .none
  | some i => .int i

theorem loop_number (dk : Option Deck) (Q : Fl → St → Prop) (x : Option V) : ∀ (b : List UInt8) (num many : Int) (y : Option V), 0 ≤ many → many + b.length ≤ 1000 →
    (∀ a y' many', parse b num = some a → many' ≤ 1000 → Q .next ⟨[x, some (.int a), some (.int many'), y'], .fresh, dk⟩) →
    (parse b num = none → ∀ st, st.dk = dk → Q (.ret .none) st) →
    forL (tN 3) b_number_of_1 (b.map fun c => .int c.toNat) ⟨[x, some (.int num), some (.int many), y], .fresh, dk⟩ Q := by
  intro b
  induction b with
  | nil => intro num many y h0 h1 h2 h3; exact h2 num y many rfl (by simpa using h1)
  | cons c r ih =>
    intro num many y h0 h1 h2 h3
    simp only [List.map_cons, forL, seq, put, ret', iff', ite', cmpT, cmp, cmp2T, cmpP, cmpEq, cmpNe, cmpLt, cmpLe, cmpGt, cmpGe, cmpIs, cmpNot, cmpIn, rd, rdO, cst, bin, binP, binAdd, binSub, binMul, binDiv, binMod, binAnd, binPow, neg, notE, notT, andT, orT, iteT, tt, vB, vOf, andE, orE, cons', nil', tup', lst', ownL, callF, callP, lenP, absP, maxP, minP, intP, bytesP, octs, rangeP, listP, baP, lenO, bytesO, retO, appL, appB, augI, augO, item, itemP, slc, sliceP, pI, pN, rev, meth, findP, joinP, byts, putT, tN, tT, tNil, tCons, putS, sets, for', iterOf, comp', dkI, dkSet, dkNE, dkPop, dkApp, retDk, intsOf, dget, dNil, dCons, seek, skip, never, St.set, isFresh, lim, V.free, frees, V.isNone, V.isB, inI, inB, lz', lt', uz', ut', nc', nn']
    dsimp only [List.length_cons] at h1
    dsimp only [parse] at h2 h3
    unfold b_number_of_1
    dsimp only [seq, put, ret', iff', ite', cmpT, cmp, cmp2T, cmpP, cmpEq, cmpNe, cmpLt, cmpLe, cmpGt, cmpGe, cmpIs, cmpNot, cmpIn, rd, rdO, cst, bin, binP, binAdd, binSub, binMul, binDiv, binMod, binAnd, binPow, neg, notE, notT, andT, orT, iteT, tt, vB, vOf, andE, orE, cons', nil', tup', lst', ownL, callF, callP, lenP, absP, maxP, minP, intP, bytesP, octs, rangeP, listP, baP, lenO, bytesO, retO, appL, appB, augI, augO, item, itemP, slc, sliceP, pI, pN, rev, meth, findP, joinP, byts, putT, tN, tT, tNil, tCons, putS, sets, for', iterOf, comp', dkI, dkSet, dkNE, dkPop, dkApp, retDk, intsOf, dget, dNil, dCons, seek, skip, never, St.set, isFresh, lim, V.free, frees, V.isNone, V.isB, inI, inB, lz', lt', uz', ut', nc', nn']
    by_cases hc : 48 ≤ c.toNat ∧ c.toNat ≤ 57
    · rw [if_pos hc] at h2 h3
      have e1 : decide ((48 : Int) ≤ (c.toNat : Int)) = true := decide_eq_true (by lia)
      have e2 : decide ((c.toNat : Int) ≤ (57 : Int)) = true := decide_eq_true (by lia)
      simp only [e1, e2, Bool.not_true]
      have fin : ∀ m : Int, 0 ≤ m → m + r.length ≤ 1000 → (match decide (m ≤ 1000) with
          | true => (Int.natAbs 10 < 9223372036854775808 ∨ num.natAbs < 9223372036854775808) ∧ forL (tN 3) b_number_of_1 (List.map (fun c => V.int ↑c.toNat) r) { loc := [x, some (V.int (10 * num + ↑c.toNat - 48)), some (V.int m), some (V.int ↑c.toNat)], own := OwnSt.fresh, dk := dk } Q
          | false => forL (tN 3) b_number_of_1 (List.map (fun c => V.int ↑c.toNat) r) { loc := [x, some (V.int num), some (V.int m), some (V.int ↑c.toNat)], own := OwnSt.fresh, dk := dk } Q) := by
        intro m hm hm'
        have : decide (m ≤ 1000) = true := decide_eq_true (by lia)
        simp only [this]
        exact ⟨.inl (by decide), ih _ _ _ hm hm' h2 h3⟩
      have h1' := h1
      by_cases hm : many > 0
      · simp only [hm, decide_true]
        exact fin (many + 1) (by lia) (by lia)
      · simp only [hm, decide_false]
        cases hne : ((c.toNat : Int) != 48) with
        | true => exact fin (many + 1) (by lia) (by lia)
        | false => exact fin many (by lia) (by lia)
    · rw [if_neg hc] at h3
      by_cases e1 : (48 : Int) ≤ (c.toNat : Int)
      · have e2 : decide ((c.toNat : Int) ≤ (57 : Int)) = false := decide_eq_false (by lia)
        simp only [e1, decide_true, e2, Bool.not_false]
        exact h3 rfl _ rfl
      · simp only [e1, decide_false, Bool.not_false]
        exact h3 rfl _ rfl
noncomputable def Num : Spec := fun ds dk Q => ∃ b : List UInt8, ds = [.byt b] ∧ b.length ≤ 900 ∧ Q (optI (numP b)) dk
theorem fNum {ds dk Q} (h : Num ds dk Q) : entry Γ_number_of 1 sem_number_of ds dk Q := by
  obtain ⟨b, rfl, hb, h⟩ := h
  unfold entry sem_number_of
  refine ⟨rfl, ?_⟩
  rw [show start Γ_number_of [.byt b] dk = ⟨[some (.byt b), none, none, none], .fresh, dk⟩ from rfl]
  unfold t_number_of_0
  (dsimp only [seq, put, ret', iff', ite', cmpT, cmp, cmp2T, cmpP, cmpEq, cmpNe, cmpLt, cmpLe, cmpGt, cmpGe, cmpIs, cmpNot, cmpIn, rd, rdO, cst, bin, binP, binAdd, binSub, binMul, binDiv, binMod, binAnd, binPow, neg, notE, notT, andT, orT, iteT, tt, vB, vOf, andE, orE, cons', nil', tup', lst', ownL, callF, callP, lenP, absP, maxP, minP, intP, bytesP, octs, rangeP, listP, baP, lenO, bytesO, retO, appL, appB, augI, augO, item, itemP, slc, sliceP, pI, pN, rev, meth, findP, joinP, byts, putT, tN, tT, tNil, tCons, putS, sets, for', iterOf, comp', dkI, dkSet, dkNE, dkPop, dkApp, retDk, intsOf, dget, dNil, dCons, seek, skip, never, St.set, isFresh, lim, V.free, frees, V.isNone, V.isB, inI, inB, lz', lt', uz', ut', nc', nn']; simp only)
  refine ⟨by lia, ?_⟩
  unfold numP at h
  by_cases hn : b = []
  · subst hn
    rw [if_pos rfl] at h
    exact ⟨trivial, h⟩
  · rw [if_neg hn] at h
    have : ((b.length : Int) == 0) = false := by
      have : b.length ≠ 0 := fun e => hn (List.length_eq_zero_iff.mp e)
      rw [beq_eq_false_iff_ne]; lia
    rw [this]
    dsimp only
    unfold t_number_of_1
    (dsimp only [seq, put, ret', iff', ite', cmpT, cmp, cmp2T, cmpP, cmpEq, cmpNe, cmpLt, cmpLe, cmpGt, cmpGe, cmpIs, cmpNot, cmpIn, rd, rdO, cst, bin, binP, binAdd, binSub, binMul, binDiv, binMod, binAnd, binPow, neg, notE, notT, andT, orT, iteT, tt, vB, vOf, andE, orE, cons', nil', tup', lst', ownL, callF, callP, lenP, absP, maxP, minP, intP, bytesP, octs, rangeP, listP, baP, lenO, bytesO, retO, appL, appB, augI, augO, item, itemP, slc, sliceP, pI, pN, rev, meth, findP, joinP, byts, putT, tN, tT, tNil, tCons, putS, sets, for', iterOf, comp', dkI, dkSet, dkNE, dkPop, dkApp, retDk, intsOf, dget, dNil, dCons, seek, skip, never, St.set, isFresh, lim, V.free, frees, V.isNone, V.isB, inI, inB, lz', lt', uz', ut', nc', nn']; simp only)
    refine ⟨by decide, trivial, ?_⟩
    unfold t_number_of_2 w_number_of_1
    dsimp only [seq, put, ret', iff', ite', cmpT, cmp, cmp2T, cmpP, cmpEq, cmpNe, cmpLt, cmpLe, cmpGt, cmpGe, cmpIs, cmpNot, cmpIn, rd, rdO, cst, bin, binP, binAdd, binSub, binMul, binDiv, binMod, binAnd, binPow, neg, notE, notT, andT, orT, iteT, tt, vB, vOf, andE, orE, cons', nil', tup', lst', ownL, callF, callP, lenP, absP, maxP, minP, intP, bytesP, octs, rangeP, listP, baP, lenO, bytesO, retO, appL, appB, augI, augO, item, itemP, slc, sliceP, pI, pN, rev, meth, findP, joinP, byts, putT, tN, tT, tNil, tCons, putS, sets, for', iterOf, comp', dkI, dkSet, dkNE, dkPop, dkApp, retDk, intsOf, dget, dNil, dCons, seek, skip, never, St.set, isFresh, lim, V.free, frees, V.isNone, V.isB, inI, inB, lz', lt', uz', ut', nc', nn']
    refine loop_number _ _ _ b 0 0 _ (by lia) (by lia) (fun a y' m ha hm => ?_) fun hp st hst => ?_
    · rw [ha] at h
      unfold t_number_of_3
      (dsimp only [seq, put, ret', iff', ite', cmpT, cmp, cmp2T, cmpP, cmpEq, cmpNe, cmpLt, cmpLe, cmpGt, cmpGe, cmpIs, cmpNot, cmpIn, rd, rdO, cst, bin, binP, binAdd, binSub, binMul, binDiv, binMod, binAnd, binPow, neg, notE, notT, andT, orT, iteT, tt, vB, vOf, andE, orE, cons', nil', tup', lst', ownL, callF, callP, lenP, absP, maxP, minP, intP, bytesP, octs, rangeP, listP, baP, lenO, bytesO, retO, appL, appB, augI, augO, item, itemP, slc, sliceP, pI, pN, rev, meth, findP, joinP, byts, putT, tN, tT, tNil, tCons, putS, sets, for', iterOf, comp', dkI, dkSet, dkNE, dkPop, dkApp, retDk, intsOf, dget, dNil, dCons, seek, skip, never, St.set, isFresh, lim, V.free, frees, V.isNone, V.isB, inI, inB, lz', lt', uz', ut', nc', nn']; simp only)
      rw [decide_eq_true hm]
      exact ⟨trivial, h⟩
    · rw [hp] at h
      exact ⟨rfl, by rw [hst]; exact h⟩

noncomputable def Whole : Spec := fun ds dk Q => ∃ b : List UInt8, ds = [.byt b] ∧ b.length ≤ 900 ∧ Q (optI (wholeP b)) dk
theorem wholeP_neg {b r : List UInt8} (h : b = 45 :: r) : wholeP b = (numP r).map fun i => -i := by subst h; rfl
theorem wholeP_pos {b : List UInt8} (h : b.take 1 ≠ [45]) : wholeP b = numP b := by
  unfold wholeP
  split
  · exact absurd rfl h
  · rfl
theorem fWhole {ds dk Q} (h : Whole ds dk Q) : entry Γ_format_whole 1 (sem_format_whole Num) ds dk Q := by
  obtain ⟨b, rfl, hb, h⟩ := h
  unfold entry sem_format_whole
  refine ⟨rfl, ?_⟩
  rw [show start Γ_format_whole [.byt b] dk = ⟨[some (.byt b), none], .fresh, dk⟩ from rfl]
  unfold t_format_whole_0
  dsimp only [seq, put, ret', iff', ite', cmpT, cmp, cmp2T, cmpP, cmpEq, cmpNe, cmpLt, cmpLe, cmpGt, cmpGe, cmpIs, cmpNot, cmpIn, rd, rdO, cst, bin, binP, binAdd, binSub, binMul, binDiv, binMod, binAnd, binPow, neg, notE, notT, andT, orT, iteT, tt, vB, vOf, andE, orE, cons', nil', tup', lst', ownL, callF, callP, lenP, absP, maxP, minP, intP, bytesP, octs, rangeP, listP, baP, lenO, bytesO, retO, appL, appB, augI, augO, item, itemP, slc, sliceP, pI, pN, rev, meth, findP, joinP, byts, putT, tN, tT, tNil, tCons, putS, sets, for', iterOf, comp', dkI, dkSet, dkNE, dkPop, dkApp, retDk, intsOf, dget, dNil, dCons, seek, skip, never, St.set, isFresh, lim, V.free, frees, V.isNone, V.isB, inI, inB, lz', lt', uz', ut', nc', nn']
  refine ⟨by lia, ?_⟩
  have e1 : cut b none (some 1) = b.take 1 := cut_to b 1
  rw [e1]
  by_cases ht : b.take 1 = [45]
  · obtain ⟨r, rfl⟩ : ∃ r, b = 45 :: r := by
      cases b with
      | nil => simp at ht
      | cons c r => simp at ht; exact ⟨r, by rw [ht]⟩
    have e2 : cut (45 :: r) (some 1) none = r := cut_from (45 :: r) 1
    rw [ht, e2]
    rw [wholeP_neg rfl] at h
    dsimp only [List.length_cons] at hb
    refine ⟨by dsimp only [List.length_cons]; lia, rfl, r, rfl, by lia, ?_⟩
    unfold t_format_whole_1
    cases hp : numP r with
    | none =>
      rw [hp] at h
      (dsimp only [optI, seq, put, ret', iff', ite', cmpT, cmp, cmp2T, cmpP, cmpEq, cmpNe, cmpLt, cmpLe, cmpGt, cmpGe, cmpIs, cmpNot, cmpIn, rd, rdO, cst, bin, binP, binAdd, binSub, binMul, binDiv, binMod, binAnd, binPow, neg, notE, notT, andT, orT, iteT, tt, vB, vOf, andE, orE, cons', nil', tup', lst', ownL, callF, callP, lenP, absP, maxP, minP, intP, bytesP, octs, rangeP, listP, baP, lenO, bytesO, retO, appL, appB, augI, augO, item, itemP, slc, sliceP, pI, pN, rev, meth, findP, joinP, byts, putT, tN, tT, tNil, tCons, putS, sets, for', iterOf, comp', dkI, dkSet, dkNE, dkPop, dkApp, retDk, intsOf, dget, dNil, dCons, seek, skip, never, St.set, isFresh, lim, V.free, frees, V.isNone, V.isB, inI, inB, lz', lt', uz', ut', nc', nn']; simp only)
      exact ⟨trivial, h⟩
    | some i =>
      rw [hp] at h
      (dsimp only [optI, seq, put, ret', iff', ite', cmpT, cmp, cmp2T, cmpP, cmpEq, cmpNe, cmpLt, cmpLe, cmpGt, cmpGe, cmpIs, cmpNot, cmpIn, rd, rdO, cst, bin, binP, binAdd, binSub, binMul, binDiv, binMod, binAnd, binPow, neg, notE, notT, andT, orT, iteT, tt, vB, vOf, andE, orE, cons', nil', tup', lst', ownL, callF, callP, lenP, absP, maxP, minP, intP, bytesP, octs, rangeP, listP, baP, lenO, bytesO, retO, appL, appB, augI, augO, item, itemP, slc, sliceP, pI, pN, rev, meth, findP, joinP, byts, putT, tN, tT, tNil, tCons, putS, sets, for', iterOf, comp', dkI, dkSet, dkNE, dkPop, dkApp, retDk, intsOf, dget, dNil, dCons, seek, skip, never, St.set, isFresh, lim, V.free, frees, V.isNone, V.isB, inI, inB, lz', lt', uz', ut', nc', nn']; simp only)
      refine ⟨by lia, ?_⟩
      rw [show cut (45 :: r) none (some 1) = [45] from (cut_to (45 :: r) 1)]
      exact ⟨trivial, h⟩
  · have : (b.take 1 == [45]) = false := by simpa using ht
    rw [this]
    rw [wholeP_pos ht] at h
    refine ⟨rfl, b, rfl, hb, ?_⟩
    unfold t_format_whole_1
    cases hp : numP b with
    | none =>
      rw [hp] at h
      (dsimp only [optI, seq, put, ret', iff', ite', cmpT, cmp, cmp2T, cmpP, cmpEq, cmpNe, cmpLt, cmpLe, cmpGt, cmpGe, cmpIs, cmpNot, cmpIn, rd, rdO, cst, bin, binP, binAdd, binSub, binMul, binDiv, binMod, binAnd, binPow, neg, notE, notT, andT, orT, iteT, tt, vB, vOf, andE, orE, cons', nil', tup', lst', ownL, callF, callP, lenP, absP, maxP, minP, intP, bytesP, octs, rangeP, listP, baP, lenO, bytesO, retO, appL, appB, augI, augO, item, itemP, slc, sliceP, pI, pN, rev, meth, findP, joinP, byts, putT, tN, tT, tNil, tCons, putS, sets, for', iterOf, comp', dkI, dkSet, dkNE, dkPop, dkApp, retDk, intsOf, dget, dNil, dCons, seek, skip, never, St.set, isFresh, lim, V.free, frees, V.isNone, V.isB, inI, inB, lz', lt', uz', ut', nc', nn']; simp only)
      exact ⟨trivial, h⟩
    | some i =>
      rw [hp] at h
      (dsimp only [optI, seq, put, ret', iff', ite', cmpT, cmp, cmp2T, cmpP, cmpEq, cmpNe, cmpLt, cmpLe, cmpGt, cmpGe, cmpIs, cmpNot, cmpIn, rd, rdO, cst, bin, binP, binAdd, binSub, binMul, binDiv, binMod, binAnd, binPow, neg, notE, notT, andT, orT, iteT, tt, vB, vOf, andE, orE, cons', nil', tup', lst', ownL, callF, callP, lenP, absP, maxP, minP, intP, bytesP, octs, rangeP, listP, baP, lenO, bytesO, retO, appL, appB, augI, augO, item, itemP, slc, sliceP, pI, pN, rev, meth, findP, joinP, byts, putT, tN, tT, tNil, tCons, putS, sets, for', iterOf, comp', dkI, dkSet, dkNE, dkPop, dkApp, retDk, intsOf, dget, dNil, dCons, seek, skip, never, St.set, isFresh, lim, V.free, frees, V.isNone, V.isB, inI, inB, lz', lt', uz', ut', nc', nn']; simp only)
      refine ⟨by lia, ?_⟩
      rw [e1, this]
      exact ⟨trivial, h⟩

noncomputable def leadV (o : Int) : V :=
  if 194 ≤ o ∧ o ≤ 223 then .tup [.int 1, .int (Builtin.bitAnd o 31), .int 128, .int 191]
  else if 224 ≤ o ∧ o ≤ 239 then .tup [.int 2, .int (Builtin.bitAnd o 15), .int (if o = 224 then 160 else 128), .int (if o = 237 then 159 else 191)]
  else if 240 ≤ o ∧ o ≤ 244 then .tup [.int 3, .int (Builtin.bitAnd o 7), .int (if o = 240 then 144 else 128), .int (if o = 244 then 143 else 191)]
  else .none
noncomputable def Lead : Spec := fun ds dk Q => ∃ o : Int, ds = [.int o] ∧ Q (leadV o) dk
theorem fLead {ds dk Q} (h : Lead ds dk Q) : entry Γ_sign_lead 1 sem_sign_lead ds dk Q := by
  obtain ⟨o, rfl, h⟩ := h
  unfold entry sem_sign_lead
  refine ⟨rfl, ?_⟩
  rw [show start Γ_sign_lead [.int o] dk = ⟨[some (.int o)], .fresh, dk⟩ from rfl]
  have bq : ∀ k : Int, (o == k) = decide (o = k) := fun k => by by_cases hk : o = k <;> simp [hk]
  unfold leadV at h
  unfold t_sign_lead_0
  dsimp only [seq, put, ret', iff', ite', cmpT, cmp, cmp2T, cmpP, cmpEq, cmpNe, cmpLt, cmpLe, cmpGt, cmpGe, cmpIs, cmpNot, cmpIn, rd, rdO, cst, bin, binP, binAdd, binSub, binMul, binDiv, binMod, binAnd, binPow, neg, notE, notT, andT, orT, iteT, tt, vB, vOf, andE, orE, cons', nil', tup', lst', ownL, callF, callP, lenP, absP, maxP, minP, intP, bytesP, octs, rangeP, listP, baP, lenO, bytesO, retO, appL, appB, augI, augO, item, itemP, slc, sliceP, pI, pN, rev, meth, findP, joinP, byts, putT, tN, tT, tNil, tCons, putS, sets, for', iterOf, comp', dkI, dkSet, dkNE, dkPop, dkApp, retDk, intsOf, dget, dNil, dCons, seek, skip, never, St.set, isFresh, lim, V.free, frees, V.isNone, V.isB, inI, inB, lz', lt', uz', ut', nc', nn']
  by_cases a1 : 194 ≤ o
  · by_cases a2 : o ≤ 223
    · rw [if_pos ⟨a1, a2⟩] at h
      simp only [a1, a2, decide_true]
      exact ⟨by decide, rfl, h⟩
    · rw [if_neg (fun x => a2 x.2)] at h
      simp only [a1, a2, decide_true, decide_false]
      unfold t_sign_lead_1
      dsimp only [seq, put, ret', iff', ite', cmpT, cmp, cmp2T, cmpP, cmpEq, cmpNe, cmpLt, cmpLe, cmpGt, cmpGe, cmpIs, cmpNot, cmpIn, rd, rdO, cst, bin, binP, binAdd, binSub, binMul, binDiv, binMod, binAnd, binPow, neg, notE, notT, andT, orT, iteT, tt, vB, vOf, andE, orE, cons', nil', tup', lst', ownL, callF, callP, lenP, absP, maxP, minP, intP, bytesP, octs, rangeP, listP, baP, lenO, bytesO, retO, appL, appB, augI, augO, item, itemP, slc, sliceP, pI, pN, rev, meth, findP, joinP, byts, putT, tN, tT, tNil, tCons, putS, sets, for', iterOf, comp', dkI, dkSet, dkNE, dkPop, dkApp, retDk, intsOf, dget, dNil, dCons, seek, skip, never, St.set, isFresh, lim, V.free, frees, V.isNone, V.isB, inI, inB, lz', lt', uz', ut', nc', nn']
      have b1 : 224 ≤ o := by lia
      by_cases b2 : o ≤ 239
      · rw [if_pos ⟨b1, b2⟩] at h
        simp only [b1, b2, decide_true, bq]
        by_cases c1 : o = 224 <;> by_cases c2 : o = 237 <;> simp only [c1, c2, decide_true, decide_false] at h ⊢ <;> first | exact ⟨by decide, rfl, by simpa [c1, c2] using h⟩ | lia
      · rw [if_neg (fun x => b2 x.2)] at h
        simp only [b1, b2, decide_true, decide_false]
        unfold t_sign_lead_2
        dsimp only [seq, put, ret', iff', ite', cmpT, cmp, cmp2T, cmpP, cmpEq, cmpNe, cmpLt, cmpLe, cmpGt, cmpGe, cmpIs, cmpNot, cmpIn, rd, rdO, cst, bin, binP, binAdd, binSub, binMul, binDiv, binMod, binAnd, binPow, neg, notE, notT, andT, orT, iteT, tt, vB, vOf, andE, orE, cons', nil', tup', lst', ownL, callF, callP, lenP, absP, maxP, minP, intP, bytesP, octs, rangeP, listP, baP, lenO, bytesO, retO, appL, appB, augI, augO, item, itemP, slc, sliceP, pI, pN, rev, meth, findP, joinP, byts, putT, tN, tT, tNil, tCons, putS, sets, for', iterOf, comp', dkI, dkSet, dkNE, dkPop, dkApp, retDk, intsOf, dget, dNil, dCons, seek, skip, never, St.set, isFresh, lim, V.free, frees, V.isNone, V.isB, inI, inB, lz', lt', uz', ut', nc', nn']
        have d1 : 240 ≤ o := by lia
        by_cases d2 : o ≤ 244
        · rw [if_pos ⟨d1, d2⟩] at h
          simp only [d1, d2, decide_true, bq]
          by_cases c1 : o = 240 <;> by_cases c2 : o = 244 <;> simp only [c1, c2, decide_true, decide_false] at h ⊢ <;> first | exact ⟨by decide, rfl, by simpa [c1, c2] using h⟩ | lia
        · rw [if_neg (fun x => d2 x.2)] at h
          simp only [d1, d2, decide_true, decide_false]
          unfold t_sign_lead_3
          (dsimp only [seq, put, ret', iff', ite', cmpT, cmp, cmp2T, cmpP, cmpEq, cmpNe, cmpLt, cmpLe, cmpGt, cmpGe, cmpIs, cmpNot, cmpIn, rd, rdO, cst, bin, binP, binAdd, binSub, binMul, binDiv, binMod, binAnd, binPow, neg, notE, notT, andT, orT, iteT, tt, vB, vOf, andE, orE, cons', nil', tup', lst', ownL, callF, callP, lenP, absP, maxP, minP, intP, bytesP, octs, rangeP, listP, baP, lenO, bytesO, retO, appL, appB, augI, augO, item, itemP, slc, sliceP, pI, pN, rev, meth, findP, joinP, byts, putT, tN, tT, tNil, tCons, putS, sets, for', iterOf, comp', dkI, dkSet, dkNE, dkPop, dkApp, retDk, intsOf, dget, dNil, dCons, seek, skip, never, St.set, isFresh, lim, V.free, frees, V.isNone, V.isB, inI, inB, lz', lt', uz', ut', nc', nn']; simp only)
          exact ⟨trivial, h⟩
  · rw [if_neg (fun x => a1 x.1), if_neg (fun x => by lia), if_neg (fun x => by lia)] at h
    simp only [a1, decide_false]
    unfold t_sign_lead_1
    dsimp only [seq, put, ret', iff', ite', cmpT, cmp, cmp2T, cmpP, cmpEq, cmpNe, cmpLt, cmpLe, cmpGt, cmpGe, cmpIs, cmpNot, cmpIn, rd, rdO, cst, bin, binP, binAdd, binSub, binMul, binDiv, binMod, binAnd, binPow, neg, notE, notT, andT, orT, iteT, tt, vB, vOf, andE, orE, cons', nil', tup', lst', ownL, callF, callP, lenP, absP, maxP, minP, intP, bytesP, octs, rangeP, listP, baP, lenO, bytesO, retO, appL, appB, augI, augO, item, itemP, slc, sliceP, pI, pN, rev, meth, findP, joinP, byts, putT, tN, tT, tNil, tCons, putS, sets, for', iterOf, comp', dkI, dkSet, dkNE, dkPop, dkApp, retDk, intsOf, dget, dNil, dCons, seek, skip, never, St.set, isFresh, lim, V.free, frees, V.isNone, V.isB, inI, inB, lz', lt', uz', ut', nc', nn']
    simp only [show ¬ 224 ≤ o by lia, decide_false]
    unfold t_sign_lead_2
    dsimp only [seq, put, ret', iff', ite', cmpT, cmp, cmp2T, cmpP, cmpEq, cmpNe, cmpLt, cmpLe, cmpGt, cmpGe, cmpIs, cmpNot, cmpIn, rd, rdO, cst, bin, binP, binAdd, binSub, binMul, binDiv, binMod, binAnd, binPow, neg, notE, notT, andT, orT, iteT, tt, vB, vOf, andE, orE, cons', nil', tup', lst', ownL, callF, callP, lenP, absP, maxP, minP, intP, bytesP, octs, rangeP, listP, baP, lenO, bytesO, retO, appL, appB, augI, augO, item, itemP, slc, sliceP, pI, pN, rev, meth, findP, joinP, byts, putT, tN, tT, tNil, tCons, putS, sets, for', iterOf, comp', dkI, dkSet, dkNE, dkPop, dkApp, retDk, intsOf, dget, dNil, dCons, seek, skip, never, St.set, isFresh, lim, V.free, frees, V.isNone, V.isB, inI, inB, lz', lt', uz', ut', nc', nn']
    simp only [show ¬ 240 ≤ o by lia, decide_false]
    unfold t_sign_lead_3
    (dsimp only [seq, put, ret', iff', ite', cmpT, cmp, cmp2T, cmpP, cmpEq, cmpNe, cmpLt, cmpLe, cmpGt, cmpGe, cmpIs, cmpNot, cmpIn, rd, rdO, cst, bin, binP, binAdd, binSub, binMul, binDiv, binMod, binAnd, binPow, neg, notE, notT, andT, orT, iteT, tt, vB, vOf, andE, orE, cons', nil', tup', lst', ownL, callF, callP, lenP, absP, maxP, minP, intP, bytesP, octs, rangeP, listP, baP, lenO, bytesO, retO, appL, appB, augI, augO, item, itemP, slc, sliceP, pI, pN, rev, meth, findP, joinP, byts, putT, tN, tT, tNil, tCons, putS, sets, for', iterOf, comp', dkI, dkSet, dkNE, dkPop, dkApp, retDk, intsOf, dget, dNil, dCons, seek, skip, never, St.set, isFresh, lim, V.free, frees, V.isNone, V.isB, inI, inB, lz', lt', uz', ut', nc', nn']; simp only)
    exact ⟨trivial, h⟩
end

section
set_option exponentiation.threshold 2000
-- comprehensions
theorem filter_tt {α : Type} (xs : List α) : xs.filter (fun _ => true) = xs := List.filter_eq_self.mpr fun _ _ => rfl
theorem compL_map {tg : Tm} {c : Ts} {e : Sm} (J : St → Prop) (p : V → Bool) (f : V → V) (Q : List V → St → Prop) : ∀ (ds acc : List V) (st : St),
    (∀ d ∈ ds, ∀ st (R : Option V → St → Prop), J st → (∀ st', J st' → R (if p d then some (f d) else none) st') →
      tg d st fun st₁ => c st₁ fun b st₂ => match b with | true => e st₂ fun x st₃ => R (some x) st₃ | false => R none st₂) →
    acc.length + ds.length ≤ 1000000 → J st → (∀ st', J st' → Q (acc ++ (ds.filter p).map f) st') → compL tg c e ds acc st Q
  | [], acc, st, _, _, hJ, hQ => by simpa [compL] using hQ st hJ
  | d :: ds, acc, st, hs, hl, hJ, hQ => by
    unfold compL
    simp only [List.length_cons] at hl
    refine hs d List.mem_cons_self st (fun o st' => match o with | some x => acc.length < 1000000 ∧ compL tg c e ds (acc ++ [x]) st' Q | none => compL tg c e ds acc st' Q) hJ fun st' hJ' => ?_
    have again := fun acc' => compL_map J p f Q ds acc' st' (fun d hd => hs d (List.mem_cons_of_mem _ hd))
    cases hp : p d with
    | true =>
      refine ⟨by lia, again _ (by simp only [List.length_append, List.length_cons, List.length_nil]; lia) hJ' fun st'' h'' => ?_⟩
      have := hQ st'' h''
      rw [List.filter_cons_of_pos hp] at this
      simpa using this
    | false =>
      refine again _ (by lia) hJ' fun st'' h'' => ?_
      have := hQ st'' h''
      rw [List.filter_cons_of_neg (by simp [hp])] at this
      exact this
theorem compL_any {tg : Tm} {e : Sm} (J : Nat → St → Prop) (P : V → Prop) (N : Nat) (Q : List V → St → Prop) : ∀ (ds acc : List V) (k : Nat) (st : St), k + ds.length ≤ N →
    (∀ d ∈ ds, ∀ k st (R : V → St → Prop), k < N → J k st → (∀ x st', P x → J (k + 1) st' → R x st') → tg d st fun st₁ => e st₁ fun x st₃ => R x st₃) →
    acc.length + ds.length ≤ 1000000 → J k st → (∀ xs st', xs.length = ds.length → (∀ x ∈ xs, P x) → J (k + ds.length) st' → Q (acc ++ xs) st') → compL tg (tt true) e ds acc st Q
  | [], acc, k, st, _, _, _, hJ, hQ => by simpa [compL] using hQ [] st rfl (fun _ h => nomatch h) hJ
  | d :: ds, acc, k, st, hk, hs, hl, hJ, hQ => by
    unfold compL
    simp only [List.length_cons] at hl hk
    refine hs d List.mem_cons_self k st (fun x st' => acc.length < 1000000 ∧ compL tg (tt true) e ds (acc ++ [x]) st' Q) (by lia) hJ fun x st' hx hJ' => ?_
    refine ⟨by lia, compL_any J P N Q ds _ (k + 1) st' (by lia) (fun d hd => hs d (List.mem_cons_of_mem _ hd)) (by simp only [List.length_append, List.length_cons, List.length_nil]; lia) hJ' fun xs st'' h1 h2 h3 => ?_⟩
    have := hQ (x :: xs) st'' (by simp [h1]) (fun y hy => by rcases List.mem_cons.mp hy with rfl | hy; exact hx; exact h2 y hy) (by rw [List.length_cons]; rw [show k + (ds.length + 1) = k + 1 + ds.length by lia]; exact h3)
    simpa using this

noncomputable def Truth : Spec := fun ds dk Q => ∃ b : Bool, ds = [.bool b] ∧ Q (.byt (if b then [49] else [48])) dk
theorem fTruth {ds dk Q} (h : Truth ds dk Q) : entry Γ_format_truth 1 sem_format_truth ds dk Q := by
  obtain ⟨b, rfl, h⟩ := h
  refine ⟨rfl, ?_⟩
  cases b <;> exact ⟨rfl, h⟩

noncomputable def cmpW (w : List UInt8) (a b : Int) : Bool :=
  if w = [61, 61] then a == b else if w = [33, 61] then a != b else if w = [60] then decide (a < b) else if w = [62] then decide (a > b) else if w = [60, 61] then decide (a ≤ b) else decide (a ≥ b)
noncomputable def Compared : Spec := fun ds dk Q => ∃ (w : List UInt8) (a b : Int), ds = [.byt w, .int a, .int b] ∧ Q (.bool (cmpW w a b)) dk
theorem beq_dec {w k : List UInt8} : (w == k) = decide (w = k) := by by_cases h : w = k <;> simp [h]
theorem fCompared {ds dk Q} (h : Compared ds dk Q) : entry Γ_format_compared 3 sem_format_compared ds dk Q := by
  obtain ⟨w, a, b, rfl, h⟩ := h
  unfold entry sem_format_compared
  refine ⟨rfl, ?_⟩
  rw [show start Γ_format_compared [.byt w, .int a, .int b] dk = ⟨[some (.byt w), some (.int a), some (.int b)], .fresh, dk⟩ from rfl]
  unfold cmpW at h
  unfold t_format_compared_0
  simp only [beq_dec, seq, put, ret', iff', ite', cmpT, cmp, cmp2T, cmpP, cmpEq, cmpNe, cmpLt, cmpLe, cmpGt, cmpGe, cmpIs, cmpNot, cmpIn, rd, rdO, cst, bin, binP, binAdd, binSub, binMul, binDiv, binMod, binAnd, binPow, neg, notE, notT, andT, orT, iteT, tt, vB, vOf, andE, orE, cons', nil', tup', lst', ownL, callF, callP, lenP, absP, maxP, minP, intP, bytesP, octs, rangeP, listP, baP, lenO, bytesO, retO, appL, appB, augI, augO, item, itemP, slc, sliceP, pI, pN, rev, meth, findP, joinP, byts, putT, tN, tT, tNil, tCons, putS, sets, for', iterOf, comp', dkI, dkSet, dkNE, dkPop, dkApp, retDk, intsOf, dget, dNil, dCons, seek, skip, never, St.set, isFresh, lim, V.free, frees, V.isNone, V.isB, inI, inB, lz', lt', uz', ut', nc', nn']
  by_cases h1 : w = [61, 61]
  · rw [if_pos h1] at h; simp only [h1, decide_true]; exact ⟨trivial, h⟩
  rw [if_neg h1] at h
  simp only [h1, decide_false]
  unfold t_format_compared_1
  simp only [beq_dec, seq, put, ret', iff', ite', cmpT, cmp, cmp2T, cmpP, cmpEq, cmpNe, cmpLt, cmpLe, cmpGt, cmpGe, cmpIs, cmpNot, cmpIn, rd, rdO, cst, bin, binP, binAdd, binSub, binMul, binDiv, binMod, binAnd, binPow, neg, notE, notT, andT, orT, iteT, tt, vB, vOf, andE, orE, cons', nil', tup', lst', ownL, callF, callP, lenP, absP, maxP, minP, intP, bytesP, octs, rangeP, listP, baP, lenO, bytesO, retO, appL, appB, augI, augO, item, itemP, slc, sliceP, pI, pN, rev, meth, findP, joinP, byts, putT, tN, tT, tNil, tCons, putS, sets, for', iterOf, comp', dkI, dkSet, dkNE, dkPop, dkApp, retDk, intsOf, dget, dNil, dCons, seek, skip, never, St.set, isFresh, lim, V.free, frees, V.isNone, V.isB, inI, inB, lz', lt', uz', ut', nc', nn']
  by_cases h2 : w = [33, 61]
  · rw [if_pos h2] at h; simp only [h2, decide_true]; exact ⟨trivial, h⟩
  rw [if_neg h2] at h
  simp only [h2, decide_false]
  unfold t_format_compared_2
  simp only [beq_dec, seq, put, ret', iff', ite', cmpT, cmp, cmp2T, cmpP, cmpEq, cmpNe, cmpLt, cmpLe, cmpGt, cmpGe, cmpIs, cmpNot, cmpIn, rd, rdO, cst, bin, binP, binAdd, binSub, binMul, binDiv, binMod, binAnd, binPow, neg, notE, notT, andT, orT, iteT, tt, vB, vOf, andE, orE, cons', nil', tup', lst', ownL, callF, callP, lenP, absP, maxP, minP, intP, bytesP, octs, rangeP, listP, baP, lenO, bytesO, retO, appL, appB, augI, augO, item, itemP, slc, sliceP, pI, pN, rev, meth, findP, joinP, byts, putT, tN, tT, tNil, tCons, putS, sets, for', iterOf, comp', dkI, dkSet, dkNE, dkPop, dkApp, retDk, intsOf, dget, dNil, dCons, seek, skip, never, St.set, isFresh, lim, V.free, frees, V.isNone, V.isB, inI, inB, lz', lt', uz', ut', nc', nn']
  by_cases h3 : w = [60]
  · rw [if_pos h3] at h; simp only [h3, decide_true]; exact ⟨trivial, h⟩
  rw [if_neg h3] at h
  simp only [h3, decide_false]
  unfold t_format_compared_3
  simp only [beq_dec, seq, put, ret', iff', ite', cmpT, cmp, cmp2T, cmpP, cmpEq, cmpNe, cmpLt, cmpLe, cmpGt, cmpGe, cmpIs, cmpNot, cmpIn, rd, rdO, cst, bin, binP, binAdd, binSub, binMul, binDiv, binMod, binAnd, binPow, neg, notE, notT, andT, orT, iteT, tt, vB, vOf, andE, orE, cons', nil', tup', lst', ownL, callF, callP, lenP, absP, maxP, minP, intP, bytesP, octs, rangeP, listP, baP, lenO, bytesO, retO, appL, appB, augI, augO, item, itemP, slc, sliceP, pI, pN, rev, meth, findP, joinP, byts, putT, tN, tT, tNil, tCons, putS, sets, for', iterOf, comp', dkI, dkSet, dkNE, dkPop, dkApp, retDk, intsOf, dget, dNil, dCons, seek, skip, never, St.set, isFresh, lim, V.free, frees, V.isNone, V.isB, inI, inB, lz', lt', uz', ut', nc', nn']
  by_cases h4 : w = [62]
  · rw [if_pos h4] at h; simp only [h4, decide_true]; exact ⟨trivial, h⟩
  rw [if_neg h4] at h
  simp only [h4, decide_false]
  unfold t_format_compared_4
  simp only [beq_dec, seq, put, ret', iff', ite', cmpT, cmp, cmp2T, cmpP, cmpEq, cmpNe, cmpLt, cmpLe, cmpGt, cmpGe, cmpIs, cmpNot, cmpIn, rd, rdO, cst, bin, binP, binAdd, binSub, binMul, binDiv, binMod, binAnd, binPow, neg, notE, notT, andT, orT, iteT, tt, vB, vOf, andE, orE, cons', nil', tup', lst', ownL, callF, callP, lenP, absP, maxP, minP, intP, bytesP, octs, rangeP, listP, baP, lenO, bytesO, retO, appL, appB, augI, augO, item, itemP, slc, sliceP, pI, pN, rev, meth, findP, joinP, byts, putT, tN, tT, tNil, tCons, putS, sets, for', iterOf, comp', dkI, dkSet, dkNE, dkPop, dkApp, retDk, intsOf, dget, dNil, dCons, seek, skip, never, St.set, isFresh, lim, V.free, frees, V.isNone, V.isB, inI, inB, lz', lt', uz', ut', nc', nn']
  by_cases h5 : w = [60, 61]
  · rw [if_pos h5] at h; simp only [h5, decide_true]; exact ⟨trivial, h⟩
  rw [if_neg h5] at h
  simp only [h5, decide_false]
  exact ⟨trivial, h⟩

theorem digs_len : ∀ (k m : Nat), m < 10 ^ k → (digs m).length ≤ max 1 k := by
  intro k
  induction k with
  | zero => intro m hm; have : m = 0 := by simpa using hm
            subst this; rw [digs_lt (by decide)]; simp
  | succ k ih =>
    intro m hm
    by_cases hs : m < 10
    · rw [digs_lt hs]; simp
    · rw [digs_ge hs, List.length_append]
      have := ih (m / 10) (by rw [Nat.div_lt_iff_lt_mul (by decide)]; rw [Nat.pow_succ] at hm; exact hm)
      simp only [List.length_singleton]
      rcases Nat.eq_zero_or_pos k with rfl | hk
      · simp at hm; lia
      · lia
theorem dec_len {n : Int} (h : n.natAbs < 10 ^ 1000) : (dec n).length ≤ 1001 := by
  have := digs_len 1000 _ h
  unfold dec
  split <;> simp <;> lia
theorem big {n : Int} (k : Nat) (h : n.natAbs < k) (hk : k ≤ 10 ^ 1000 := by decide) : n.natAbs < 10 ^ 1000 := Nat.lt_of_lt_of_le h hk

noncomputable def two (n : Int) : List UInt8 := dec (n.fdiv 10) ++ dec (n.fmod 10)
noncomputable def Two : Spec := fun ds dk Q => ∃ n : Int, ds = [.int n] ∧ 0 ≤ n ∧ n < 1000 ∧ Q (.byt (two n)) dk
theorem fTwo {ds dk Q} (h : Two ds dk Q) : entry Γ_format_two 1 (sem_format_two Dec) ds dk Q := by
  obtain ⟨n, rfl, h0, h1, h⟩ := h
  unfold two at h
  unfold entry sem_format_two
  refine ⟨rfl, ?_⟩
  rw [show start Γ_format_two [.int n] dk = ⟨[some (.int n)], .fresh, dk⟩ from rfl]
  obtain ⟨m, rfl⟩ : ∃ m : Nat, n = m := ⟨n.toNat, by lia⟩
  unfold t_format_two_0
  dsimp only [seq, put, ret', iff', ite', cmpT, cmp, cmp2T, cmpP, cmpEq, cmpNe, cmpLt, cmpLe, cmpGt, cmpGe, cmpIs, cmpNot, cmpIn, rd, rdO, cst, bin, binP, binAdd, binSub, binMul, binDiv, binMod, binAnd, binPow, neg, notE, notT, andT, orT, iteT, tt, vB, vOf, andE, orE, cons', nil', tup', lst', ownL, callF, callP, lenP, absP, maxP, minP, intP, bytesP, octs, rangeP, listP, baP, lenO, bytesO, retO, appL, appB, augI, augO, item, itemP, slc, sliceP, pI, pN, rev, meth, findP, joinP, byts, putT, tN, tT, tNil, tCons, putS, sets, for', iterOf, comp', dkI, dkSet, dkNE, dkPop, dkApp, retDk, intsOf, dget, dNil, dCons, seek, skip, never, St.set, isFresh, lim, V.free, frees, V.isNone, V.isB, inI, inB, lz', lt', uz', ut', nc', nn']
  rw [fdiv10, fmod10] at h ⊢
  have b1 : (((m / 10 : Nat) : Int)).natAbs < 10 ^ 1000 := big 1000 (by lia)
  have b2 : (((m % 10 : Nat) : Int)).natAbs < 10 ^ 1000 := big 1000 (by lia)
  refine ⟨by decide, by decide, rfl, _, rfl, b1, by decide, rfl, _, rfl, b2, ?_, by trivial, h⟩
  have := dec_len b1
  have := dec_len b2
  lia

noncomputable def quotP (a b : Int) : Int := if decide (a < 0) == decide (b < 0) then ((a.natAbs : Nat) : Int).fdiv ((b.natAbs : Nat) : Int) else -(((a.natAbs : Nat) : Int).fdiv ((b.natAbs : Nat) : Int))
noncomputable def Quot' : Spec := fun ds dk Q => ∃ a b : Int, ds = [.int a, .int b] ∧ b ≠ 0 ∧ b.natAbs < 1073741824 ∧ Q (.int (quotP a b)) dk
theorem fQuot {ds dk Q} (h : Quot' ds dk Q) : entry Γ_format_quotient 2 sem_format_quotient ds dk Q := by
  obtain ⟨a, b, rfl, h0, h1, h⟩ := h
  unfold entry sem_format_quotient
  refine ⟨rfl, ?_⟩
  rw [show start Γ_format_quotient [.int a, .int b] dk = ⟨[some (.int a), some (.int b), none], .fresh, dk⟩ from rfl]
  unfold t_format_quotient_0
  dsimp only [seq, put, ret', iff', ite', cmpT, cmp, cmp2T, cmpP, cmpEq, cmpNe, cmpLt, cmpLe, cmpGt, cmpGe, cmpIs, cmpNot, cmpIn, rd, rdO, cst, bin, binP, binAdd, binSub, binMul, binDiv, binMod, binAnd, binPow, neg, notE, notT, andT, orT, iteT, tt, vB, vOf, andE, orE, cons', nil', tup', lst', ownL, callF, callP, lenP, absP, maxP, minP, intP, bytesP, octs, rangeP, listP, baP, lenO, bytesO, retO, appL, appB, augI, augO, item, itemP, slc, sliceP, pI, pN, rev, meth, findP, joinP, byts, putT, tN, tT, tNil, tCons, putS, sets, for', iterOf, comp', dkI, dkSet, dkNE, dkPop, dkApp, retDk, intsOf, dget, dNil, dCons, seek, skip, never, St.set, isFresh, lim, V.free, frees, V.isNone, V.isB, inI, inB, lz', lt', uz', ut', nc', nn']
  refine ⟨by lia, by lia, ?_⟩
  unfold t_format_quotient_1
  dsimp only [seq, put, ret', iff', ite', cmpT, cmp, cmp2T, cmpP, cmpEq, cmpNe, cmpLt, cmpLe, cmpGt, cmpGe, cmpIs, cmpNot, cmpIn, rd, rdO, cst, bin, binP, binAdd, binSub, binMul, binDiv, binMod, binAnd, binPow, neg, notE, notT, andT, orT, iteT, tt, vB, vOf, andE, orE, cons', nil', tup', lst', ownL, callF, callP, lenP, absP, maxP, minP, intP, bytesP, octs, rangeP, listP, baP, lenO, bytesO, retO, appL, appB, augI, augO, item, itemP, slc, sliceP, pI, pN, rev, meth, findP, joinP, byts, putT, tN, tT, tNil, tCons, putS, sets, for', iterOf, comp', dkI, dkSet, dkNE, dkPop, dkApp, retDk, intsOf, dget, dNil, dCons, seek, skip, never, St.set, isFresh, lim, V.free, frees, V.isNone, V.isB, inI, inB, lz', lt', uz', ut', nc', nn']
  unfold quotP at h
  cases hb : (decide (a < 0) == decide (b < 0)) with
  | true => rw [hb, if_pos rfl] at h; exact ⟨by trivial, h⟩
  | false => rw [hb, if_neg (by decide)] at h; exact ⟨by trivial, h⟩

noncomputable def longP (y : Int) : Bool := (y.fmod 4 == 0) && ((y.fmod 100 != 0) || (y.fmod 400 == 0))
noncomputable def Long : Spec := fun ds dk Q => ∃ y : Int, ds = [.int y] ∧ Q (.bool (longP y)) dk
theorem fLong {ds dk Q} (h : Long ds dk Q) : entry Γ__law_is_long 1 sem__law_is_long ds dk Q := by
  obtain ⟨y, rfl, h⟩ := h
  unfold entry sem__law_is_long
  refine ⟨rfl, ?_⟩
  rw [show start Γ__law_is_long [.int y] dk = ⟨[some (.int y)], .fresh, dk⟩ from rfl]
  unfold t__law_is_long_0
  dsimp only [seq, put, ret', iff', ite', cmpT, cmp, cmp2T, cmpP, cmpEq, cmpNe, cmpLt, cmpLe, cmpGt, cmpGe, cmpIs, cmpNot, cmpIn, rd, rdO, cst, bin, binP, binAdd, binSub, binMul, binDiv, binMod, binAnd, binPow, neg, notE, notT, andT, orT, iteT, tt, vB, vOf, andE, orE, cons', nil', tup', lst', ownL, callF, callP, lenP, absP, maxP, minP, intP, bytesP, octs, rangeP, listP, baP, lenO, bytesO, retO, appL, appB, augI, augO, item, itemP, slc, sliceP, pI, pN, rev, meth, findP, joinP, byts, putT, tN, tT, tNil, tCons, putS, sets, for', iterOf, comp', dkI, dkSet, dkNE, dkPop, dkApp, retDk, intsOf, dget, dNil, dCons, seek, skip, never, St.set, isFresh, lim, V.free, frees, V.isNone, V.isB, inI, inB, lz', lt', uz', ut', nc', nn']
  unfold longP at h
  refine ⟨by decide, ?_⟩
  cases h1 : (y.fmod 4 == 0) with
  | false => rw [h1] at h; exact ⟨by trivial, h⟩
  | true =>
    rw [h1] at h
    refine ⟨by decide, ?_⟩
    cases h2 : (y.fmod 100 != 0) with
    | true => rw [h2] at h; exact ⟨by trivial, h⟩
    | false =>
      rw [h2] at h
      exact ⟨by decide, by trivial, h⟩

noncomputable def lowI (c : UInt8) : UInt8 := if 65 ≤ c.toNat ∧ c.toNat ≤ 90 then c + 32 else c
noncomputable def foldP (f : Bool) (b : List UInt8) : List UInt8 := if f then b.map lowI else b
noncomputable def Folded : Spec := fun ds dk Q => ∃ (b : List UInt8) (f : Bool), ds = [.byt b, .bool f] ∧ b.length ≤ 100000 ∧ Q (.byt (foldP f b)) dk
theorem octs_map : ∀ (b : List UInt8) (g : UInt8 → Int) (Q : List UInt8 → Prop), (∀ c ∈ b, 0 ≤ g c ∧ g c < 256) → Q (b.map fun c => (g c).toNat.toUInt8) → octs (b.map fun c => .int (g c)) Q
  | [], g, Q, _, h => h
  | c :: r, g, Q, hb, h => by
    simp only [List.map_cons, octs]
    exact ⟨hb c List.mem_cons_self, octs_map r g _ (fun d hd => hb d (List.mem_cons_of_mem _ hd)) h⟩
theorem lowI_eq (c : UInt8) : (if (65 : Int) ≤ (c.toNat : Int) ∧ (c.toNat : Int) ≤ 90 then (c.toNat : Int) + 32 else (c.toNat : Int)).toNat.toUInt8 = lowI c := by
  unfold lowI
  by_cases h : 65 ≤ c.toNat ∧ c.toNat ≤ 90
  · rw [if_pos h, if_pos (by lia)]
    have : ((c.toNat : Int) + 32).toNat = c.toNat + 32 := by lia
    rw [this]
    apply UInt8.toNat_inj.mp
    rw [UInt8.toNat_add]
    show (c.toNat + 32) % 256 = (c.toNat + 32) % 256
    rfl
  · rw [if_neg h, if_neg (by lia)]
    have : ((c.toNat : Int)).toNat = c.toNat := by lia
    rw [this]; simp
theorem fFolded {ds dk Q} (h : Folded ds dk Q) : entry Γ_format_folded 2 sem_format_folded ds dk Q := by
  obtain ⟨b, f, rfl, hb, h⟩ := h
  unfold entry sem_format_folded
  refine ⟨rfl, ?_⟩
  rw [show start Γ_format_folded [.byt b, .bool f] dk = ⟨[some (.byt b), some (.bool f)], .fresh, dk⟩ from rfl]
  unfold t_format_folded_0
  simp only [seq, put, ret', iff', ite', cmpT, cmp, cmp2T, cmpP, cmpEq, cmpNe, cmpLt, cmpLe, cmpGt, cmpGe, cmpIs, cmpNot, cmpIn, rd, rdO, cst, bin, binP, binAdd, binSub, binMul, binDiv, binMod, binAnd, binPow, neg, notE, notT, andT, orT, iteT, tt, vB, vOf, andE, orE, cons', nil', tup', lst', ownL, callF, callP, lenP, absP, maxP, minP, intP, bytesP, octs, rangeP, listP, baP, lenO, bytesO, retO, appL, appB, augI, augO, item, itemP, slc, sliceP, pI, pN, rev, meth, findP, joinP, byts, putT, tN, tT, tNil, tCons, putS, sets, for', iterOf, comp', dkI, dkSet, dkNE, dkPop, dkApp, retDk, intsOf, dget, dNil, dCons, seek, skip, never, St.set, isFresh, lim, V.free, frees, V.isNone, V.isB, inI, inB, lz', lt', uz', ut', nc', nn']
  unfold foldP at h
  cases f with
  | false => exact ⟨trivial, h⟩
  | true =>
    rw [if_pos rfl] at h
    show t_format_folded_1 _ _
    unfold t_format_folded_1
    dsimp only [seq, put, ret', iff', ite', cmpT, cmp, cmp2T, cmpP, cmpEq, cmpNe, cmpLt, cmpLe, cmpGt, cmpGe, cmpIs, cmpNot, cmpIn, rd, rdO, cst, bin, binP, binAdd, binSub, binMul, binDiv, binMod, binAnd, binPow, neg, notE, notT, andT, orT, iteT, tt, vB, vOf, andE, orE, cons', nil', tup', lst', ownL, callF, callP, lenP, absP, maxP, minP, intP, bytesP, octs, rangeP, listP, baP, lenO, bytesO, retO, appL, appB, augI, augO, item, itemP, slc, sliceP, pI, pN, rev, meth, findP, joinP, byts, putT, tN, tT, tNil, tCons, putS, sets, for', iterOf, comp', dkI, dkSet, dkNE, dkPop, dkApp, retDk, intsOf, dget, dNil, dCons, seek, skip, never, St.set, isFresh, lim, V.free, frees, V.isNone, V.isB, inI, inB, lz', lt', uz', ut', nc', nn']
    refine ⟨trivial, ?_⟩
    have : inner Γ_format_folded_1 [] ⟨[some (.byt b), some (.bool true)], .fresh, dk⟩ = ⟨[none], .fresh, dk⟩ := rfl
    rw [this]
    refine compL_map (fun st => ∃ o, st = ⟨[o], .fresh, dk⟩) (fun _ => true) (fun d => match d with | .int i => .int (if 65 ≤ i ∧ i ≤ 90 then i + 32 else i) | d => d) _ _ [] _ ?_ (by simp; lia) ⟨none, rfl⟩ ?_
    · rintro d hd st R ⟨o, rfl⟩ hR
      obtain ⟨c, hc, rfl⟩ := List.mem_map.mp hd
      dsimp only [seq, put, ret', iff', ite', cmpT, cmp, cmp2T, cmpP, cmpEq, cmpNe, cmpLt, cmpLe, cmpGt, cmpGe, cmpIs, cmpNot, cmpIn, rd, rdO, cst, bin, binP, binAdd, binSub, binMul, binDiv, binMod, binAnd, binPow, neg, notE, notT, andT, orT, iteT, tt, vB, vOf, andE, orE, cons', nil', tup', lst', ownL, callF, callP, lenP, absP, maxP, minP, intP, bytesP, octs, rangeP, listP, baP, lenO, bytesO, retO, appL, appB, augI, augO, item, itemP, slc, sliceP, pI, pN, rev, meth, findP, joinP, byts, putT, tN, tT, tNil, tCons, putS, sets, for', iterOf, comp', dkI, dkSet, dkNE, dkPop, dkApp, retDk, intsOf, dget, dNil, dCons, seek, skip, never, St.set, isFresh, lim, V.free, frees, V.isNone, V.isB, inI, inB, lz', lt', uz', ut', nc', nn']
      have hR' := hR ⟨[some (.int c.toNat)], .fresh, dk⟩ ⟨_, rfl⟩
      simp only [if_true] at hR'
      by_cases h1 : (65 : Int) ≤ (c.toNat : Int)
      · by_cases h2 : (c.toNat : Int) ≤ 90
        · rw [if_pos ⟨h1, h2⟩] at hR'; simp only [h1, h2, decide_true]; exact hR'
        · rw [if_neg (fun x => h2 x.2)] at hR'; simp only [h1, h2, decide_true, decide_false]; exact hR'
      · rw [if_neg (fun x => h1 x.1)] at hR'; simp only [h1, decide_false]; exact hR'
    · rintro st ⟨o, rfl⟩
      simp only [List.nil_append, filter_tt, List.map_map]
      refine ⟨trivial, by simp; lia, ?_⟩
      show octs (b.map fun c => V.int (if (65 : Int) ≤ (c.toNat : Int) ∧ (c.toNat : Int) ≤ 90 then (c.toNat : Int) + 32 else (c.toNat : Int))) _
      refine octs_map b _ _ (fun c _ => ?_) ?_
      · have := c.toNat_lt
        split <;> lia
      · refine ⟨trivial, ?_⟩
        have e : (b.map fun c => (if (65 : Int) ≤ (c.toNat : Int) ∧ (c.toNat : Int) ≤ 90 then (c.toNat : Int) + 32 else (c.toNat : Int)).toNat.toUInt8) = b.map lowI := List.map_congr_left fun c _ => lowI_eq c
        rw [e]; exact h
end

section
set_option exponentiation.threshold 2000
/-- a deck with no more than t draws -/
structure Dk (t : Int) (d : Deck) : Prop where
  cells : d.cells.length ≤ 100
  lo : 0 ≤ d.turn
  hi : d.turn ≤ t
theorem Dk.mono {t u : Int} {d : Deck} (h : Dk t d) (hu : t ≤ u) : Dk u d := ⟨h.cells, h.lo, by have := h.hi; lia⟩

noncomputable def Draw (t : Int) : Spec := fun ds dk Q => ∃ (below : Int) (d : Deck), ds = [.deck, .int below] ∧ 0 < below ∧ below < 1000000 ∧ dk = some d ∧ Dk t d ∧ ∀ r d', 0 ≤ r → r < below → Dk (d.turn + 1) d' → d'.turn = d.turn + 1 → Q (.int r) (some d')
theorem fDraw {t : Int} (ht : t ≤ 1000000) {ds dk Q} (h : Draw t ds dk Q) : entry Γ__law_draw 2 sem__law_draw ds dk Q := by
  obtain ⟨below, d, rfl, h0, h1, rfl, hd, h⟩ := h
  unfold entry sem__law_draw
  refine ⟨rfl, ?_⟩
  rw [show start Γ__law_draw [.deck, .int below] (some d) = ⟨[some .deck, some (.int below), none, none], .fresh, some d⟩ from rfl]
  have := hd.lo
  have := hd.hi
  have := hd.cells
  have hb0 : below ≠ 0 := by lia
  unfold t__law_draw_0
  dsimp only [seq, put, ret', iff', ite', cmpT, cmp, cmp2T, cmpP, cmpEq, cmpNe, cmpLt, cmpLe, cmpGt, cmpGe, cmpIs, cmpNot, cmpIn, rd, rdO, cst, bin, binP, binAdd, binSub, binMul, binDiv, binMod, binAnd, binPow, neg, notE, notT, andT, orT, iteT, tt, vB, vOf, andE, orE, cons', nil', tup', lst', ownL, callF, callP, lenP, absP, maxP, minP, intP, bytesP, octs, rangeP, listP, baP, lenO, bytesO, retO, appL, appB, augI, augO, item, itemP, slc, sliceP, pI, pN, rev, meth, findP, joinP, byts, putT, tN, tT, tNil, tCons, putS, sets, for', iterOf, comp', dkI, dkSet, dkNE, dkPop, dkApp, retDk, intsOf, dget, dNil, dCons, seek, skip, never, St.set, isFresh, lim, V.free, frees, V.isNone, V.isB, inI, inB, lz', lt', uz', ut', nc', nn']
  unfold t__law_draw_1
  dsimp only [seq, put, ret', iff', ite', cmpT, cmp, cmp2T, cmpP, cmpEq, cmpNe, cmpLt, cmpLe, cmpGt, cmpGe, cmpIs, cmpNot, cmpIn, rd, rdO, cst, bin, binP, binAdd, binSub, binMul, binDiv, binMod, binAnd, binPow, neg, notE, notT, andT, orT, iteT, tt, vB, vOf, andE, orE, cons', nil', tup', lst', ownL, callF, callP, lenP, absP, maxP, minP, intP, bytesP, octs, rangeP, listP, baP, lenO, bytesO, retO, appL, appB, augI, augO, item, itemP, slc, sliceP, pI, pN, rev, meth, findP, joinP, byts, putT, tN, tT, tNil, tCons, putS, sets, for', iterOf, comp', dkI, dkSet, dkNE, dkPop, dkApp, retDk, intsOf, dget, dNil, dCons, seek, skip, never, St.set, isFresh, lim, V.free, frees, V.isNone, V.isB, inI, inB, lz', lt', uz', ut', nc', nn']
  refine ⟨.inl (by decide), .inr (by lia), ?_⟩
  have fin : ∀ (f : Int) (o : Option V) (d' : Deck), Dk (d.turn + 1) d' → d'.turn = d.turn + 1 → t__law_draw_3 ⟨[some .deck, some (.int below), some (.int f), o], .fresh, some d'⟩ (fun fl st => match fl with
      | .next => Q .none st.dk
      | .ret v => v.free = true ∧ Q v st.dk) := by
    intro f o d' hd' ht'
    unfold t__law_draw_3
    dsimp only [seq, put, ret', iff', ite', cmpT, cmp, cmp2T, cmpP, cmpEq, cmpNe, cmpLt, cmpLe, cmpGt, cmpGe, cmpIs, cmpNot, cmpIn, rd, rdO, cst, bin, binP, binAdd, binSub, binMul, binDiv, binMod, binAnd, binPow, neg, notE, notT, andT, orT, iteT, tt, vB, vOf, andE, orE, cons', nil', tup', lst', ownL, callF, callP, lenP, absP, maxP, minP, intP, bytesP, octs, rangeP, listP, baP, lenO, bytesO, retO, appL, appB, augI, augO, item, itemP, slc, sliceP, pI, pN, rev, meth, findP, joinP, byts, putT, tN, tT, tNil, tCons, putS, sets, for', iterOf, comp', dkI, dkSet, dkNE, dkPop, dkApp, retDk, intsOf, dget, dNil, dCons, seek, skip, never, St.set, isFresh, lim, V.free, frees, V.isNone, V.isB, inI, inB, lz', lt', uz', ut', nc', nn']
    refine ⟨by decide, .inr (by decide), by decide, ?_⟩
    unfold t__law_draw_4
    dsimp only [seq, put, ret', iff', ite', cmpT, cmp, cmp2T, cmpP, cmpEq, cmpNe, cmpLt, cmpLe, cmpGt, cmpGe, cmpIs, cmpNot, cmpIn, rd, rdO, cst, bin, binP, binAdd, binSub, binMul, binDiv, binMod, binAnd, binPow, neg, notE, notT, andT, orT, iteT, tt, vB, vOf, andE, orE, cons', nil', tup', lst', ownL, callF, callP, lenP, absP, maxP, minP, intP, bytesP, octs, rangeP, listP, baP, lenO, bytesO, retO, appL, appB, augI, augO, item, itemP, slc, sliceP, pI, pN, rev, meth, findP, joinP, byts, putT, tN, tT, tNil, tCons, putS, sets, for', iterOf, comp', dkI, dkSet, dkNE, dkPop, dkApp, retDk, intsOf, dget, dNil, dCons, seek, skip, never, St.set, isFresh, lim, V.free, frees, V.isNone, V.isB, inI, inB, lz', lt', uz', ut', nc', nn']
    have b1 : ((f.fmod 2147483629 * 40692).fmod 2147483647).natAbs < 9223372036854775808 := by
      have := Int.fmod_lt_of_pos (f.fmod 2147483629 * 40692) (b := 2147483647) (by decide)
      have := Int.fmod_nonneg_of_pos (f.fmod 2147483629 * 40692) (b := 2147483647) (by decide)
      lia
    refine ⟨.inl b1, by decide, ?_⟩
    unfold t__law_draw_5
    dsimp only [seq, put, ret', iff', ite', cmpT, cmp, cmp2T, cmpP, cmpEq, cmpNe, cmpLt, cmpLe, cmpGt, cmpGe, cmpIs, cmpNot, cmpIn, rd, rdO, cst, bin, binP, binAdd, binSub, binMul, binDiv, binMod, binAnd, binPow, neg, notE, notT, andT, orT, iteT, tt, vB, vOf, andE, orE, cons', nil', tup', lst', ownL, callF, callP, lenP, absP, maxP, minP, intP, bytesP, octs, rangeP, listP, baP, lenO, bytesO, retO, appL, appB, augI, augO, item, itemP, slc, sliceP, pI, pN, rev, meth, findP, joinP, byts, putT, tN, tT, tNil, tCons, putS, sets, for', iterOf, comp', dkI, dkSet, dkNE, dkPop, dkApp, retDk, intsOf, dget, dNil, dCons, seek, skip, never, St.set, isFresh, lim, V.free, frees, V.isNone, V.isB, inI, inB, lz', lt', uz', ut', nc', nn']
    refine ⟨.inr (by decide), by decide, by decide, by decide, hb0, by trivial, ?_⟩
    exact h _ _ (Int.fmod_nonneg_of_pos _ h0) (Int.fmod_lt_of_pos _ h0) hd' ht'
  unfold t__law_draw_2
  dsimp only [seq, put, ret', iff', ite', cmpT, cmp, cmp2T, cmpP, cmpEq, cmpNe, cmpLt, cmpLe, cmpGt, cmpGe, cmpIs, cmpNot, cmpIn, rd, rdO, cst, bin, binP, binAdd, binSub, binMul, binDiv, binMod, binAnd, binPow, neg, notE, notT, andT, orT, iteT, tt, vB, vOf, andE, orE, cons', nil', tup', lst', ownL, callF, callP, lenP, absP, maxP, minP, intP, bytesP, octs, rangeP, listP, baP, lenO, bytesO, retO, appL, appB, augI, augO, item, itemP, slc, sliceP, pI, pN, rev, meth, findP, joinP, byts, putT, tN, tT, tNil, tCons, putS, sets, for', iterOf, comp', dkI, dkSet, dkNE, dkPop, dkApp, retDk, intsOf, dget, dNil, dCons, seek, skip, never, St.set, isFresh, lim, V.free, frees, V.isNone, V.isB, inI, inB, lz', lt', uz', ut', nc', nn']
  cases hc : d.cells with
  | nil =>
    dsimp only [List.isEmpty_nil, Bool.not_true]
    exact fin _ _ _ ⟨by simp, by show 0 ≤ d.turn + 1; lia, Int.le_refl _⟩ rfl
  | cons c r =>
    dsimp only [List.isEmpty_cons, Bool.not_false]
    rw [hc] at this
    dsimp only [List.length_cons] at this
    unfold c__law_draw_2
    dsimp only [hc, seq, put, ret', iff', ite', cmpT, cmp, cmp2T, cmpP, cmpEq, cmpNe, cmpLt, cmpLe, cmpGt, cmpGe, cmpIs, cmpNot, cmpIn, rd, rdO, cst, bin, binP, binAdd, binSub, binMul, binDiv, binMod, binAnd, binPow, neg, notE, notT, andT, orT, iteT, tt, vB, vOf, andE, orE, cons', nil', tup', lst', ownL, callF, callP, lenP, absP, maxP, minP, intP, bytesP, octs, rangeP, listP, baP, lenO, bytesO, retO, appL, appB, augI, augO, item, itemP, slc, sliceP, pI, pN, rev, meth, findP, joinP, byts, putT, tN, tT, tNil, tCons, putS, sets, for', iterOf, comp', dkI, dkSet, dkNE, dkPop, dkApp, retDk, intsOf, dget, dNil, dCons, seek, skip, never, St.set, isFresh, lim, V.free, frees, V.isNone, V.isB, inI, inB, lz', lt', uz', ut', nc', nn']
    refine ⟨by lia, ?_⟩
    obtain ⟨y, hy⟩ : ∃ y, (c :: r).getLast? = some y := ⟨(c :: r).getLast (by simp), List.getLast?_eq_some_getLast (by simp)⟩
    rw [hy]
    dsimp only
    by_cases hbig : y ≥ 1000000
    · simp only [hbig, decide_true]
      unfold c__law_draw_1
      dsimp only [seq, put, ret', iff', ite', cmpT, cmp, cmp2T, cmpP, cmpEq, cmpNe, cmpLt, cmpLe, cmpGt, cmpGe, cmpIs, cmpNot, cmpIn, rd, rdO, cst, bin, binP, binAdd, binSub, binMul, binDiv, binMod, binAnd, binPow, neg, notE, notT, andT, orT, iteT, tt, vB, vOf, andE, orE, cons', nil', tup', lst', ownL, callF, callP, lenP, absP, maxP, minP, intP, bytesP, octs, rangeP, listP, baP, lenO, bytesO, retO, appL, appB, augI, augO, item, itemP, slc, sliceP, pI, pN, rev, meth, findP, joinP, byts, putT, tN, tT, tNil, tCons, putS, sets, for', iterOf, comp', dkI, dkSet, dkNE, dkPop, dkApp, retDk, intsOf, dget, dNil, dCons, seek, skip, never, St.set, isFresh, lim, V.free, frees, V.isNone, V.isB, inI, inB, lz', lt', uz', ut', nc', nn']
      refine ⟨hb0, by lia, by simp; lia, hb0, by trivial, ?_⟩
      exact h _ _ (Int.fmod_nonneg_of_pos _ h0) (Int.fmod_lt_of_pos _ h0) ⟨by simp; lia, by show 0 ≤ d.turn + 1; lia, Int.le_refl _⟩ rfl
    · simp only [hbig, decide_false]
      refine ⟨by decide, ?_⟩
      exact fin _ _ _ ⟨by simp; lia, by show 0 ≤ d.turn + 1; lia, Int.le_refl _⟩ rfl

noncomputable def Pick (t : Int) : Spec := fun ds dk Q => ∃ (xs : List V) (d : Deck), ds = [.deck, .lst xs] ∧ xs ≠ [] ∧ xs.length < 1000 ∧ (∀ x ∈ xs, x.free = true) ∧ dk = some d ∧ Dk t d ∧ ∀ x ∈ xs, ∀ d', Dk (d.turn + 1) d' → d'.turn = d.turn + 1 → Q x (some d')
theorem fPick {t : Int} {ds dk Q} (h : Pick t ds dk Q) : entry Γ__law_pick 2 (sem__law_pick (Draw t)) ds dk Q := by
  obtain ⟨xs, d, rfl, hn, hl, hfr, rfl, hd, h⟩ := h
  unfold entry sem__law_pick
  refine ⟨rfl, ?_⟩
  rw [show start Γ__law_pick [.deck, .lst xs] (some d) = ⟨[some .deck, some (.lst xs)], .fresh, some d⟩ from rfl]
  have hpos : 0 < xs.length := List.length_pos_iff.mpr hn
  unfold t__law_pick_0
  dsimp only [seq, put, ret', iff', ite', cmpT, cmp, cmp2T, cmpP, cmpEq, cmpNe, cmpLt, cmpLe, cmpGt, cmpGe, cmpIs, cmpNot, cmpIn, rd, rdO, cst, bin, binP, binAdd, binSub, binMul, binDiv, binMod, binAnd, binPow, neg, notE, notT, andT, orT, iteT, tt, vB, vOf, andE, orE, cons', nil', tup', lst', ownL, callF, callP, lenP, absP, maxP, minP, intP, bytesP, octs, rangeP, listP, baP, lenO, bytesO, retO, appL, appB, augI, augO, item, itemP, slc, sliceP, pI, pN, rev, meth, findP, joinP, byts, putT, tN, tT, tNil, tCons, putS, sets, for', iterOf, comp', dkI, dkSet, dkNE, dkPop, dkApp, retDk, intsOf, dget, dNil, dCons, seek, skip, never, St.set, isFresh, lim, V.free, frees, V.isNone, V.isB, inI, inB, lz', lt', uz', ut', nc', nn']
  refine ⟨by lia, by decide, _, d, rfl, by lia, by lia, rfl, hd, fun r d' h0 h1 hd' ht => ?_⟩
  refine ⟨⟨h0, by lia⟩, ?_⟩
  have hr : r.toNat < xs.length := by lia
  rw [List.getElem?_eq_getElem hr]
  exact ⟨hfr _ (List.getElem_mem hr), h _ (List.getElem_mem hr) d' hd' ht⟩

noncomputable def DeckS : Spec := fun ds dk Q => ∃ ns : List Int, ds = [.lst (ns.map V.int)] ∧ ns.length ≤ 63 ∧ dk = none ∧ ∀ d', Dk 0 d' → Q .deck (some d')
theorem intsOf_ints : ∀ (ns : List Int) (Q : List Int → Prop), Q ns → intsOf (ns.map V.int) Q
  | [], Q, h => h
  | n :: ns, Q, h => intsOf_ints ns (fun b => Q (n :: b)) h
theorem loop_deck (x : Option V) (xs : V) (Q : Fl → St → Prop) : ∀ (ns : List Int) (m : Int) (c : Option V), (∀ m' c', Q .next ⟨[x, c', some xs, some (.int m')], .fresh, none⟩) →
    forL (tN 1) b__law_deck_1 (ns.map V.int) ⟨[x, c, some xs, some (.int m)], .fresh, none⟩ Q
  | [], m, c, h => h m c
  | n :: ns, m, c, h => by
    simp only [List.map_cons, forL, seq, put, ret', iff', ite', cmpT, cmp, cmp2T, cmpP, cmpEq, cmpNe, cmpLt, cmpLe, cmpGt, cmpGe, cmpIs, cmpNot, cmpIn, rd, rdO, cst, bin, binP, binAdd, binSub, binMul, binDiv, binMod, binAnd, binPow, neg, notE, notT, andT, orT, iteT, tt, vB, vOf, andE, orE, cons', nil', tup', lst', ownL, callF, callP, lenP, absP, maxP, minP, intP, bytesP, octs, rangeP, listP, baP, lenO, bytesO, retO, appL, appB, augI, augO, item, itemP, slc, sliceP, pI, pN, rev, meth, findP, joinP, byts, putT, tN, tT, tNil, tCons, putS, sets, for', iterOf, comp', dkI, dkSet, dkNE, dkPop, dkApp, retDk, intsOf, dget, dNil, dCons, seek, skip, never, St.set, isFresh, lim, V.free, frees, V.isNone, V.isB, inI, inB, lz', lt', uz', ut', nc', nn']
    unfold b__law_deck_1
    dsimp only [seq, put, ret', iff', ite', cmpT, cmp, cmp2T, cmpP, cmpEq, cmpNe, cmpLt, cmpLe, cmpGt, cmpGe, cmpIs, cmpNot, cmpIn, rd, rdO, cst, bin, binP, binAdd, binSub, binMul, binDiv, binMod, binAnd, binPow, neg, notE, notT, andT, orT, iteT, tt, vB, vOf, andE, orE, cons', nil', tup', lst', ownL, callF, callP, lenP, absP, maxP, minP, intP, bytesP, octs, rangeP, listP, baP, lenO, bytesO, retO, appL, appB, augI, augO, item, itemP, slc, sliceP, pI, pN, rev, meth, findP, joinP, byts, putT, tN, tT, tNil, tCons, putS, sets, for', iterOf, comp', dkI, dkSet, dkNE, dkPop, dkApp, retDk, intsOf, dget, dNil, dCons, seek, skip, never, St.set, isFresh, lim, V.free, frees, V.isNone, V.isB, inI, inB, lz', lt', uz', ut', nc', nn']
    exact ⟨.inr (by decide), by decide, by decide, loop_deck x xs Q ns _ _ h⟩
theorem fDeckS {ds dk Q} (h : DeckS ds dk Q) : entry Γ__law_deck 1 sem__law_deck ds dk Q := by
  obtain ⟨ns, rfl, hl, rfl, h⟩ := h
  unfold entry sem__law_deck
  refine ⟨rfl, ?_⟩
  rw [show start Γ__law_deck [.lst (ns.map V.int)] none = ⟨[some (.lst (ns.map V.int)), none, none, none], .fresh, none⟩ from rfl]
  unfold t__law_deck_0
  dsimp only [seq, put, ret', iff', ite', cmpT, cmp, cmp2T, cmpP, cmpEq, cmpNe, cmpLt, cmpLe, cmpGt, cmpGe, cmpIs, cmpNot, cmpIn, rd, rdO, cst, bin, binP, binAdd, binSub, binMul, binDiv, binMod, binAnd, binPow, neg, notE, notT, andT, orT, iteT, tt, vB, vOf, andE, orE, cons', nil', tup', lst', ownL, callF, callP, lenP, absP, maxP, minP, intP, bytesP, octs, rangeP, listP, baP, lenO, bytesO, retO, appL, appB, augI, augO, item, itemP, slc, sliceP, pI, pN, rev, meth, findP, joinP, byts, putT, tN, tT, tNil, tCons, putS, sets, for', iterOf, comp', dkI, dkSet, dkNE, dkPop, dkApp, retDk, intsOf, dget, dNil, dCons, seek, skip, never, St.set, isFresh, lim, V.free, frees, V.isNone, V.isB, inI, inB, lz', lt', uz', ut', nc', nn']
  refine ⟨by simp; lia, trivial, ?_⟩
  have e1 : cut (ns.map V.int) none (some 20) = (ns.take 20).map V.int := by rw [show (20 : Int) = ((20 : Nat) : Int) from rfl, cut_to, List.map_take]
  rw [e1]
  have : inner Γ__law_deck_1 [] ⟨[some (.lst (ns.map V.int)), none, none, none], .fresh, none⟩ = ⟨[none], .fresh, none⟩ := rfl
  rw [this]
  refine compL_map (fun st => ∃ o, st = ⟨[o], .fresh, none⟩) (fun _ => true) (fun d => match d with | .int i => .int (i.fmod (10 ^ 60)) | d => d) _ _ [] _ ?_ (by simp; lia) ⟨none, rfl⟩ ?_
  · rintro d hd st R ⟨o, rfl⟩ hR
    obtain ⟨c, hc, rfl⟩ := List.mem_map.mp hd
    dsimp only [seq, put, ret', iff', ite', cmpT, cmp, cmp2T, cmpP, cmpEq, cmpNe, cmpLt, cmpLe, cmpGt, cmpGe, cmpIs, cmpNot, cmpIn, rd, rdO, cst, bin, binP, binAdd, binSub, binMul, binDiv, binMod, binAnd, binPow, neg, notE, notT, andT, orT, iteT, tt, vB, vOf, andE, orE, cons', nil', tup', lst', ownL, callF, callP, lenP, absP, maxP, minP, intP, bytesP, octs, rangeP, listP, baP, lenO, bytesO, retO, appL, appB, augI, augO, item, itemP, slc, sliceP, pI, pN, rev, meth, findP, joinP, byts, putT, tN, tT, tNil, tCons, putS, sets, for', iterOf, comp', dkI, dkSet, dkNE, dkPop, dkApp, retDk, intsOf, dget, dNil, dCons, seek, skip, never, St.set, isFresh, lim, V.free, frees, V.isNone, V.isB, inI, inB, lz', lt', uz', ut', nc', nn']
    have hR' := hR ⟨[some (.int c)], .fresh, none⟩ ⟨_, rfl⟩
    dsimp only [if_true] at hR'
    exact ⟨by decide, by decide +kernel, by decide +kernel, hR'⟩
  · rintro st ⟨o, rfl⟩
    simp only [List.nil_append, filter_tt, List.map_map]
    refine ⟨trivial, by decide, by trivial, ?_⟩
    simp only [List.reverse_cons, List.reverse_nil, List.nil_append, List.cons_append, seq, put, ret', iff', ite', cmpT, cmp, cmp2T, cmpP, cmpEq, cmpNe, cmpLt, cmpLe, cmpGt, cmpGe, cmpIs, cmpNot, cmpIn, rd, rdO, cst, bin, binP, binAdd, binSub, binMul, binDiv, binMod, binAnd, binPow, neg, notE, notT, andT, orT, iteT, tt, vB, vOf, andE, orE, cons', nil', tup', lst', ownL, callF, callP, lenP, absP, maxP, minP, intP, bytesP, octs, rangeP, listP, baP, lenO, bytesO, retO, appL, appB, augI, augO, item, itemP, slc, sliceP, pI, pN, rev, meth, findP, joinP, byts, putT, tN, tT, tNil, tCons, putS, sets, for', iterOf, comp', dkI, dkSet, dkNE, dkPop, dkApp, retDk, intsOf, dget, dNil, dCons, seek, skip, never, St.set, isFresh, lim, V.free, frees, V.isNone, V.isB, inI, inB, lz', lt', uz', ut', nc', nn']
    unfold t__law_deck_1 w__law_deck_1
    dsimp only [seq, put, ret', iff', ite', cmpT, cmp, cmp2T, cmpP, cmpEq, cmpNe, cmpLt, cmpLe, cmpGt, cmpGe, cmpIs, cmpNot, cmpIn, rd, rdO, cst, bin, binP, binAdd, binSub, binMul, binDiv, binMod, binAnd, binPow, neg, notE, notT, andT, orT, iteT, tt, vB, vOf, andE, orE, cons', nil', tup', lst', ownL, callF, callP, lenP, absP, maxP, minP, intP, bytesP, octs, rangeP, listP, baP, lenO, bytesO, retO, appL, appB, augI, augO, item, itemP, slc, sliceP, pI, pN, rev, meth, findP, joinP, byts, putT, tN, tT, tNil, tCons, putS, sets, for', iterOf, comp', dkI, dkSet, dkNE, dkPop, dkApp, retDk, intsOf, dget, dNil, dCons, seek, skip, never, St.set, isFresh, lim, V.free, frees, V.isNone, V.isB, inI, inB, lz', lt', uz', ut', nc', nn']
    have e2 : List.map ((fun d => match d with | V.int i => V.int (i.fmod (10 ^ 60)) | d => d) ∘ V.int) (ns.take 20) = ((ns.take 20).map fun i => i.fmod (10 ^ 60)).map V.int := by
      rw [List.map_map]; rfl
    rw [e2]
    refine loop_deck _ _ _ _ _ _ fun m' c' => ?_
    unfold t__law_deck_2
    dsimp only [seq, put, ret', iff', ite', cmpT, cmp, cmp2T, cmpP, cmpEq, cmpNe, cmpLt, cmpLe, cmpGt, cmpGe, cmpIs, cmpNot, cmpIn, rd, rdO, cst, bin, binP, binAdd, binSub, binMul, binDiv, binMod, binAnd, binPow, neg, notE, notT, andT, orT, iteT, tt, vB, vOf, andE, orE, cons', nil', tup', lst', ownL, callF, callP, lenP, absP, maxP, minP, intP, bytesP, octs, rangeP, listP, baP, lenO, bytesO, retO, appL, appB, augI, augO, item, itemP, slc, sliceP, pI, pN, rev, meth, findP, joinP, byts, putT, tN, tT, tNil, tCons, putS, sets, for', iterOf, comp', dkI, dkSet, dkNE, dkPop, dkApp, retDk, intsOf, dget, dNil, dCons, seek, skip, never, St.set, isFresh, lim, V.free, frees, V.isNone, V.isB, inI, inB, lz', lt', uz', ut', nc', nn']
    refine intsOf_ints _ _ ⟨by simp; lia, by trivial, h _ ⟨by simp; lia, Int.le_refl _, Int.le_refl _⟩⟩
end

section
set_option exponentiation.threshold 2000
-- numbers read back
theorem fig_toNat (m : Nat) : (UInt8.ofNat (48 + m % 10)).toNat = 48 + m % 10 := by
  rw [UInt8.toNat_ofNat']; lia
theorem parse_append : ∀ (xs ys : List UInt8) (a : Int), parse (xs ++ ys) a = (parse xs a).bind (parse ys ·)
  | [], ys, a => rfl
  | c :: r, ys, a => by
    dsimp only [List.cons_append, parse]
    split
    · exact parse_append r ys _
    · rfl
theorem parse_digs (n : Nat) : parse (digs n) 0 = some (n : Int) := by
  induction n using Nat.strongRecOn with
  | ind n ih =>
    by_cases h : n < 10
    · rw [digs_lt h]
      dsimp only [parse]
      rw [fig_toNat, if_pos (by lia)]
      congr 1; lia
    · rw [digs_ge h, parse_append, ih (n / 10) (by lia)]
      dsimp only [Option.bind_some, parse]
      rw [fig_toNat, if_pos (by lia)]
      congr 1; lia
theorem digs_ne (n : Nat) : digs n ≠ [] := by
  by_cases h : n < 10
  · rw [digs_lt h]; simp
  · rw [digs_ge h]; simp
theorem digs_fig (n : Nat) : ∀ c ∈ digs n, 48 ≤ c.toNat ∧ c.toNat ≤ 57 := by
  induction n using Nat.strongRecOn with
  | ind n ih =>
    intro c hc
    by_cases h : n < 10
    · rw [digs_lt h] at hc
      have : c = UInt8.ofNat (48 + n % 10) := by simpa using hc
      rw [this, fig_toNat]; lia
    · rw [digs_ge h] at hc
      rcases List.mem_append.mp hc with hc | hc
      · exact ih (n / 10) (by lia) c hc
      · have : c = UInt8.ofNat (48 + n % 10) := by simpa using hc
        rw [this, fig_toNat]; lia
theorem numP_digs (n : Nat) : numP (digs n) = some (n : Int) := by unfold numP; rw [if_neg (digs_ne n), parse_digs]
theorem numP_pad (n : Nat) : numP (48 :: 48 :: digs n) = some (n : Int) := by
  unfold numP
  rw [if_neg (by simp)]
  have : parse (48 :: 48 :: digs n) 0 = parse (digs n) 0 := rfl
  rw [this, parse_digs]
theorem head_pos {b : List UInt8} (h : ∀ c ∈ b, 48 ≤ c.toNat ∧ c.toNat ≤ 57) : b.take 1 ≠ [45] := by
  cases b with
  | nil => simp
  | cons c r =>
    intro e
    have hc : c = 45 := by simpa using e
    have := h c List.mem_cons_self
    rw [hc] at this
    exact absurd this (by decide)
theorem wholeP_dec (n : Int) : wholeP (dec n) = some n := by
  unfold dec
  by_cases h : n < 0
  · rw [if_pos h]
    rw [show ([45] : List UInt8) ++ digs n.natAbs = 45 :: digs n.natAbs from rfl, wholeP_neg rfl, numP_digs]
    dsimp only [Option.map_some]; congr 1; lia
  · rw [if_neg h, List.nil_append, wholeP_pos (head_pos (digs_fig _)), numP_digs]
    congr 1; lia

/-- octets and the number that they say -/
structure Says (b : List UInt8) (v : Option Int) : Prop where
  whole : wholeP b = v
  len : b.length ≤ 900
  small : ∀ i, v = some i → i.natAbs ≤ 300

theorem dec_small {n : Int} (h : n.natAbs ≤ 300) : (dec n).length ≤ 5 := by
  have := digs_len 3 n.natAbs (by lia)
  unfold dec
  split <;> simp <;> lia
theorem says_dec {n : Int} (h : n.natAbs ≤ 300) : Says (dec n) (some n) := ⟨wholeP_dec n, by have := dec_small h; lia, fun i e => by cases e; exact h⟩
theorem says_pad {n : Int} (h : n.natAbs ≤ 300) : Says ((if n < 0 then [45, 48, 48] else [48, 48]) ++ dec n.natAbs) (some n) := by
  have e : dec (n.natAbs : Int) = digs n.natAbs := by unfold dec; rw [if_neg (by lia)]; simp
  refine ⟨?_, ?_, fun i e => by cases e; exact h⟩
  · rw [e]
    by_cases hn : n < 0
    · rw [if_pos hn]
      show wholeP (45 :: 48 :: 48 :: digs n.natAbs) = _
      rw [wholeP_neg rfl, numP_pad]
      dsimp only [Option.map_some]; congr 1; lia
    · rw [if_neg hn]
      show wholeP (48 :: 48 :: digs n.natAbs) = _
      rw [wholeP_pos (by simp), numP_pad]
      congr 1; lia
  · have := dec_small (n := (n.natAbs : Int)) (by lia)
    split <;> simp <;> lia

noncomputable def Number (t : Int) : Spec := fun ds dk Q => ∃ d : Deck, ds = [.deck] ∧ dk = some d ∧ Dk t d ∧ ∀ b v d', Says b v → Dk (d.turn + 2) d' → Q (.tup [.byt b, optI v]) (some d')
theorem optI_free (v : Option Int) : (optI v).free = true := by cases v <;> rfl
theorem fNumber {t : Int} {ds dk Q} (h : Number t ds dk Q) : entry Γ__law_number 1 (sem__law_number (Draw (t + 1)) (Pick (t + 1)) Dec) ds dk Q := by
  obtain ⟨d, rfl, rfl, hd, h⟩ := h
  refine ⟨rfl, ?_⟩
  rw [show start Γ__law_number [.deck] (some d) = ⟨[some .deck, none, none], .fresh, some d⟩ from rfl]
  show t__law_number_0 _ _ _ _ _
  unfold t__law_number_0
  dsimp only [seq, put, ret', iff', ite', cmpT, cmp, cmp2T, cmpP, cmpEq, cmpNe, cmpLt, cmpLe, cmpGt, cmpGe, cmpIs, cmpNot, cmpIn, rd, rdO, cst, bin, binP, binAdd, binSub, binMul, binDiv, binMod, binAnd, binPow, neg, notE, notT, andT, orT, iteT, tt, vB, vOf, andE, orE, cons', nil', tup', lst', ownL, callF, callP, lenP, absP, maxP, minP, intP, bytesP, octs, rangeP, listP, baP, lenO, bytesO, retO, appL, appB, augI, augO, item, itemP, slc, sliceP, pI, pN, rev, meth, findP, joinP, byts, putT, tN, tT, tNil, tCons, putS, sets, for', iterOf, comp', dkI, dkSet, dkNE, dkPop, dkApp, retDk, intsOf, dget, dNil, dCons, seek, skip, never, St.set, isFresh, lim, V.free, frees, V.isNone, V.isB, inI, inB, lz', lt', uz', ut', nc', nn']
  refine ⟨by trivial, 8, d, rfl, by decide, by decide, rfl, hd.mono (by lia), fun r d₁ h0 h1 hd₁ ht₁ => ?_⟩
  have hdt := hd.hi
  show t__law_number_1 _ _ _ ⟨[some .deck, some (.int r), none], .fresh, some d₁⟩ _
  unfold t__law_number_1
  dsimp only [seq, put, ret', iff', ite', cmpT, cmp, cmp2T, cmpP, cmpEq, cmpNe, cmpLt, cmpLe, cmpGt, cmpGe, cmpIs, cmpNot, cmpIn, rd, rdO, cst, bin, binP, binAdd, binSub, binMul, binDiv, binMod, binAnd, binPow, neg, notE, notT, andT, orT, iteT, tt, vB, vOf, andE, orE, cons', nil', tup', lst', ownL, callF, callP, lenP, absP, maxP, minP, intP, bytesP, octs, rangeP, listP, baP, lenO, bytesO, retO, appL, appB, augI, augO, item, itemP, slc, sliceP, pI, pN, rev, meth, findP, joinP, byts, putT, tN, tT, tNil, tCons, putS, sets, for', iterOf, comp', dkI, dkSet, dkNE, dkPop, dkApp, retDk, intsOf, dget, dNil, dCons, seek, skip, never, St.set, isFresh, lim, V.free, frees, V.isNone, V.isB, inI, inB, lz', lt', uz', ut', nc', nn']
  by_cases h7 : r = 7
  · subst h7
    refine ⟨by decide, by trivial, _, d₁, rfl, by simp, by simp, by simp [V.free], rfl, hd₁.mono (by lia), fun x hx d₂ hd₂ ht₂ => ?_⟩
    have key : ∃ b, x = .byt b ∧ Says b none := by
      simp only [List.mem_cons, List.not_mem_nil, or_false] at hx
      rcases hx with rfl | rfl | rfl | rfl | rfl | rfl | rfl <;> exact ⟨_, rfl, by decide, by decide, fun _ e => nomatch e⟩
    obtain ⟨b, rfl, hs⟩ := key
    exact ⟨by decide, by trivial, h b none d₂ hs (hd₂.mono (by lia))⟩
  · rw [show (r == 7) = false by simpa using h7]
    show t__law_number_2 _ _ _ _ _
    unfold t__law_number_2
    dsimp only [seq, put, ret', iff', ite', cmpT, cmp, cmp2T, cmpP, cmpEq, cmpNe, cmpLt, cmpLe, cmpGt, cmpGe, cmpIs, cmpNot, cmpIn, rd, rdO, cst, bin, binP, binAdd, binSub, binMul, binDiv, binMod, binAnd, binPow, neg, notE, notT, andT, orT, iteT, tt, vB, vOf, andE, orE, cons', nil', tup', lst', ownL, callF, callP, lenP, absP, maxP, minP, intP, bytesP, octs, rangeP, listP, baP, lenO, bytesO, retO, appL, appB, augI, augO, item, itemP, slc, sliceP, pI, pN, rev, meth, findP, joinP, byts, putT, tN, tT, tNil, tCons, putS, sets, for', iterOf, comp', dkI, dkSet, dkNE, dkPop, dkApp, retDk, intsOf, dget, dNil, dCons, seek, skip, never, St.set, isFresh, lim, V.free, frees, V.isNone, V.isB, inI, inB, lz', lt', uz', ut', nc', nn']
    refine ⟨by decide, by trivial, _, d₁, rfl, by simp, by simp, by simp [V.free], rfl, hd₁.mono (by lia), fun x hx d₂ hd₂ ht₂ => ?_⟩
    have key : ∃ i : Int, x = .int i ∧ i.natAbs ≤ 300 := by
      simp only [List.mem_cons, List.not_mem_nil, or_false] at hx
      rcases hx with rfl | rfl | rfl | rfl | rfl | rfl | rfl | rfl <;> exact ⟨_, rfl, by decide⟩
    obtain ⟨i, rfl, hi⟩ := key
    have hd₂' : Dk (d.turn + 2) d₂ := hd₂.mono (by lia)
    have fin : ∀ m : Int, m.natAbs ≤ 300 → t__law_number_3 (Draw (t + 1)) (Pick (t + 1)) Dec ⟨[some .deck, some (.int r), some (.int m)], .fresh, some d₂⟩ (fun fl st => match fl with
        | .next => Q .none st.dk
        | .ret v => v.free = true ∧ Q v st.dk) := by
      intro m hm
      unfold t__law_number_3
      dsimp only [seq, put, ret', iff', ite', cmpT, cmp, cmp2T, cmpP, cmpEq, cmpNe, cmpLt, cmpLe, cmpGt, cmpGe, cmpIs, cmpNot, cmpIn, rd, rdO, cst, bin, binP, binAdd, binSub, binMul, binDiv, binMod, binAnd, binPow, neg, notE, notT, andT, orT, iteT, tt, vB, vOf, andE, orE, cons', nil', tup', lst', ownL, callF, callP, lenP, absP, maxP, minP, intP, bytesP, octs, rangeP, listP, baP, lenO, bytesO, retO, appL, appB, augI, augO, item, itemP, slc, sliceP, pI, pN, rev, meth, findP, joinP, byts, putT, tN, tT, tNil, tCons, putS, sets, for', iterOf, comp', dkI, dkSet, dkNE, dkPop, dkApp, retDk, intsOf, dget, dNil, dCons, seek, skip, never, St.set, isFresh, lim, V.free, frees, V.isNone, V.isB, inI, inB, lz', lt', uz', ut', nc', nn']
      by_cases h4 : r > 4
      · simp only [h4, decide_true]
        have hs := h _ (some m) d₂ (says_pad hm) hd₂'
        have hl := dec_small (n := (m.natAbs : Int)) (by lia)
        by_cases hm0 : m < 0
        · rw [if_pos hm0] at hs
          simp only [hm0, decide_true]
          exact ⟨by trivial, _, rfl, big 1000 (by lia), by simp; lia, by decide, by trivial, hs⟩
        · rw [if_neg hm0] at hs
          simp only [hm0, decide_false]
          exact ⟨by trivial, _, rfl, big 1000 (by lia), by simp; lia, by decide, by trivial, hs⟩
      · simp only [h4, decide_false]
        exact ⟨by trivial, m, rfl, big 1000 (by lia), by decide, by trivial, h _ (some m) d₂ (says_dec hm) hd₂'⟩
    dsimp only
    refine ⟨by decide, ?_⟩
    cases hr : (r.fmod 2 == 0) with
    | true => exact ⟨.inr (by decide), fin _ (by lia)⟩
    | false => exact ⟨.inr (by decide), fin _ (by lia)⟩
end

section
set_option exponentiation.threshold 2000
noncomputable def cmpWords : List (List UInt8) := [[61, 61], [33, 61], [60], [62], [60, 61], [62, 61]]
noncomputable def words : List (List UInt8) := [[47], [109], [37], [43], [45], [42], [61, 61], [33, 61], [60], [62], [60, 61], [62, 61], [120]]
noncomputable def reckP (w : List UInt8) (x y : Option Int) : List UInt8 := match x, y with
  | some a, some b =>
    if (w = [47] ∨ w = [109] ∨ w = [37]) ∧ b = 0 then []
    else if w ∈ cmpWords then (if cmpW w a b then [49] else [48])
    else if w = [43] then dec (a + b)
    else if w = [45] then dec (a - b)
    else if w = [42] then dec (a * b)
    else if w = [47] then dec (quotP a b)
    else if w = [109] ∨ w = [37] then dec (a - b * quotP a b)
    else []
  | _, _ => []
theorem quotP_small {a b : Int} : (quotP a b).natAbs ≤ a.natAbs := by
  have h : ((a.natAbs : Nat) : Int).fdiv ((b.natAbs : Nat) : Int) = ((a.natAbs / b.natAbs : Nat) : Int) := by
    rw [Int.fdiv_eq_ediv_of_nonneg _ (by omega)]; rfl
  have := Nat.div_le_self a.natAbs b.natAbs
  unfold quotP
  rw [h]
  generalize a.natAbs / b.natAbs = q at this ⊢
  split <;> omega
theorem mul_small {a b : Int} (ha : a.natAbs ≤ 300) (hb : b.natAbs ≤ 300) : (a * b).natAbs ≤ 90000 := by
  rw [Int.natAbs_mul]
  exact Nat.mul_le_mul ha hb
noncomputable def Reck : Spec := fun ds dk Q => ∃ (w n f : List UInt8) (x y : Option Int), ds = [.byt w, .byt n, .byt f] ∧ w ∈ words ∧ Says n x ∧ Says f y ∧ Q (.byt (reckP w x y)) dk
theorem fReck {ds dk Q} (h : Reck ds dk Q) : entry Γ_format_reckoned 3 (sem_format_reckoned Whole Truth Compared Dec Quot') ds dk Q := by
  obtain ⟨w, n, f, x, y, rfl, hw, hn, hf, h⟩ := h
  refine ⟨rfl, ?_⟩
  rw [show start Γ_format_reckoned [.byt w, .byt n, .byt f] dk = ⟨[some (.byt w), some (.byt n), some (.byt f), none, none], .fresh, dk⟩ from rfl]
  show t_format_reckoned_0 _ _ _ _ _ _ _
  unfold t_format_reckoned_0
  simp only [List.reverse_cons, List.reverse_nil, List.nil_append, List.cons_append, seq, put, ret', iff', ite', cmpT, cmp, cmp2T, cmpP, cmpEq, cmpNe, cmpLt, cmpLe, cmpGt, cmpGe, cmpIs, cmpNot, cmpIn, rd, rdO, cst, bin, binP, binAdd, binSub, binMul, binDiv, binMod, binAnd, binPow, neg, notE, notT, andT, orT, iteT, tt, vB, vOf, andE, orE, cons', nil', tup', lst', ownL, callF, callP, lenP, absP, maxP, minP, intP, bytesP, octs, rangeP, listP, baP, lenO, bytesO, retO, appL, appB, augI, augO, item, itemP, slc, sliceP, pI, pN, rev, meth, findP, joinP, byts, putT, tN, tT, tNil, tCons, putS, sets, for', iterOf, comp', dkI, dkSet, dkNE, dkPop, dkApp, retDk, intsOf, dget, dNil, dCons, seek, skip, never, St.set, isFresh, lim, V.free, frees, V.isNone, V.isB, inI, inB, lz', lt', uz', ut', nc', nn']
  refine ⟨by trivial, n, rfl, hn.len, by trivial, f, rfl, hf.len, by decide, by trivial, ?_⟩
  rw [hn.whole, hf.whole]
  cases x with
  | none => exact ⟨by decide, h⟩
  | some a =>
    cases y with
    | none => exact ⟨by decide, h⟩
    | some b =>
      have ha := hn.small a rfl
      have hb := hf.small b rfl
      have hq := @quotP_small a b
      have hm := mul_small ha hb
      have hq2 := @mul_small b (quotP a b) hb (by omega)
      simp only [words, List.mem_cons, List.not_mem_nil, or_false] at hw
      rcases hw with rfl | rfl | rfl | rfl | rfl | rfl | rfl | rfl | rfl | rfl | rfl | rfl | rfl
      · show t_format_reckoned_1 _ _ _ _ _ _ _
        unfold t_format_reckoned_1
        simp only [optI, seq, put, ret', iff', ite', cmpT, cmp, cmp2T, cmpP, cmpEq, cmpNe, cmpLt, cmpLe, cmpGt, cmpGe, cmpIs, cmpNot, cmpIn, rd, rdO, cst, bin, binP, binAdd, binSub, binMul, binDiv, binMod, binAnd, binPow, neg, notE, notT, andT, orT, iteT, tt, vB, vOf, andE, orE, cons', nil', tup', lst', ownL, callF, callP, lenP, absP, maxP, minP, intP, bytesP, octs, rangeP, listP, baP, lenO, bytesO, retO, appL, appB, augI, augO, item, itemP, slc, sliceP, pI, pN, rev, meth, findP, joinP, byts, putT, tN, tT, tNil, tCons, putS, sets, for', iterOf, comp', dkI, dkSet, dkNE, dkPop, dkApp, retDk, intsOf, dget, dNil, dCons, seek, skip, never, St.set, isFresh, lim, V.free, frees, V.isNone, V.isB, inI, inB, lz', lt', uz', ut', nc', nn']
        refine ⟨by decide, ?_⟩
        by_cases h0 : b = 0
        · subst h0; exact ⟨by decide, h⟩
        · rw [show (b == 0) = false by simpa using h0]
          have e : reckP [47] (some a) (some b) = dec (quotP a b) := by unfold reckP; dsimp only; rw [if_neg (fun x => h0 x.2)]; rfl
          rw [e] at h
          exact ⟨by unfold lim; decide, by trivial, a, b, rfl, h0, by omega, by trivial, _, rfl, big 1000000 (by omega), by trivial, h⟩
      · show t_format_reckoned_1 _ _ _ _ _ _ _
        unfold t_format_reckoned_1
        simp only [optI, seq, put, ret', iff', ite', cmpT, cmp, cmp2T, cmpP, cmpEq, cmpNe, cmpLt, cmpLe, cmpGt, cmpGe, cmpIs, cmpNot, cmpIn, rd, rdO, cst, bin, binP, binAdd, binSub, binMul, binDiv, binMod, binAnd, binPow, neg, notE, notT, andT, orT, iteT, tt, vB, vOf, andE, orE, cons', nil', tup', lst', ownL, callF, callP, lenP, absP, maxP, minP, intP, bytesP, octs, rangeP, listP, baP, lenO, bytesO, retO, appL, appB, augI, augO, item, itemP, slc, sliceP, pI, pN, rev, meth, findP, joinP, byts, putT, tN, tT, tNil, tCons, putS, sets, for', iterOf, comp', dkI, dkSet, dkNE, dkPop, dkApp, retDk, intsOf, dget, dNil, dCons, seek, skip, never, St.set, isFresh, lim, V.free, frees, V.isNone, V.isB, inI, inB, lz', lt', uz', ut', nc', nn']
        refine ⟨by decide, ?_⟩
        by_cases h0 : b = 0
        · subst h0; exact ⟨by decide, h⟩
        · rw [show (b == 0) = false by simpa using h0]
          have e : reckP [109] (some a) (some b) = dec (a - b * quotP a b) := by unfold reckP; dsimp only; rw [if_neg (fun x => h0 x.2)]; rfl
          rw [e] at h
          exact ⟨by unfold lim; decide, by unfold lim; decide, by trivial, a, b, rfl, h0, by omega, .inl (by omega), by trivial, _, rfl, big 1000000 (by omega), by trivial, h⟩
      · show t_format_reckoned_1 _ _ _ _ _ _ _
        unfold t_format_reckoned_1
        simp only [optI, seq, put, ret', iff', ite', cmpT, cmp, cmp2T, cmpP, cmpEq, cmpNe, cmpLt, cmpLe, cmpGt, cmpGe, cmpIs, cmpNot, cmpIn, rd, rdO, cst, bin, binP, binAdd, binSub, binMul, binDiv, binMod, binAnd, binPow, neg, notE, notT, andT, orT, iteT, tt, vB, vOf, andE, orE, cons', nil', tup', lst', ownL, callF, callP, lenP, absP, maxP, minP, intP, bytesP, octs, rangeP, listP, baP, lenO, bytesO, retO, appL, appB, augI, augO, item, itemP, slc, sliceP, pI, pN, rev, meth, findP, joinP, byts, putT, tN, tT, tNil, tCons, putS, sets, for', iterOf, comp', dkI, dkSet, dkNE, dkPop, dkApp, retDk, intsOf, dget, dNil, dCons, seek, skip, never, St.set, isFresh, lim, V.free, frees, V.isNone, V.isB, inI, inB, lz', lt', uz', ut', nc', nn']
        refine ⟨by decide, ?_⟩
        by_cases h0 : b = 0
        · subst h0; exact ⟨by decide, h⟩
        · rw [show (b == 0) = false by simpa using h0]
          have e : reckP [37] (some a) (some b) = dec (a - b * quotP a b) := by unfold reckP; dsimp only; rw [if_neg (fun x => h0 x.2)]; rfl
          rw [e] at h
          exact ⟨by unfold lim; decide, by unfold lim; decide, by trivial, a, b, rfl, h0, by omega, .inl (by omega), by trivial, _, rfl, big 1000000 (by omega), by trivial, h⟩
      · exact ⟨by unfold lim; decide, by unfold lim; decide, by trivial, _, rfl, big 1000000 (by omega), by trivial, h⟩
      · exact ⟨by unfold lim; decide, by unfold lim; decide, by trivial, _, rfl, big 1000000 (by omega), by trivial, h⟩
      · exact ⟨by unfold lim; decide, by unfold lim; decide, .inl (by omega), by trivial, _, rfl, big 1000000 (by omega), by trivial, h⟩
      · exact ⟨by unfold lim; decide, by unfold lim; decide, by trivial, _, a, b, rfl, by trivial, _, rfl, by trivial, h⟩
      · exact ⟨by unfold lim; decide, by unfold lim; decide, by trivial, _, a, b, rfl, by trivial, _, rfl, by trivial, h⟩
      · exact ⟨by unfold lim; decide, by unfold lim; decide, by trivial, _, a, b, rfl, by trivial, _, rfl, by trivial, h⟩
      · exact ⟨by unfold lim; decide, by unfold lim; decide, by trivial, _, a, b, rfl, by trivial, _, rfl, by trivial, h⟩
      · exact ⟨by unfold lim; decide, by unfold lim; decide, by trivial, _, a, b, rfl, by trivial, _, rfl, by trivial, h⟩
      · exact ⟨by unfold lim; decide, by unfold lim; decide, by trivial, _, a, b, rfl, by trivial, _, rfl, by trivial, h⟩
      · exact ⟨by unfold lim; decide, by unfold lim; decide, by unfold lim; decide, by trivial, h⟩
end

section
set_option exponentiation.threshold 2000
noncomputable def Right (t : Int) : Spec := fun ds dk Q => ∃ d : Deck, ds = [.deck] ∧ dk = some d ∧ Dk t d ∧ ∀ d', Q (.bool true) (some d')
abbrev fin (Q : V → Option Deck → Prop) : Fl → St → Prop := fun fl st => match fl with
  | .next => Q .none st.dk
  | .ret v => v.free = true ∧ Q v st.dk
theorem quot_eq (a b : Int) : ((a.natAbs : Nat) : Int).fdiv ((b.natAbs : Nat) : Int) * (if decide (a < 0) == decide (b < 0) then 1 else -1) = quotP a b := by
  unfold quotP
  split <;> simp
theorem decb (c : Bool) : dec (if c then 1 else 0) = if c then [49] else [48] := by
  cases c <;> (unfold dec; rw [if_neg (by decide), digs_lt (by decide)]; rfl)
theorem smallb (c : Bool) : ∀ i, some (if c then (1 : Int) else 0) = some i → i.natAbs ≤ 100000 := fun i h => by cases h; cases c <;> decide
abbrev T3 (t : Int) := t__law_reckoned_right_3 (Number t) (Pick t) Whole Reck Dec
abbrev T4 (t : Int) := t__law_reckoned_right_4 (Number t) (Pick t) Whole Reck Dec

theorem reck_end {t : Int} {Q : V → Option Deck → Prop} {w n f : List UInt8} {x y : Option Int} {d : Deck} {p : Option V} {due : Option Int} (hw : w ∈ words) (hn : Says n x) (hf : Says f y) (hQ : ∀ d', Q (.bool true) (some d'))
    (hd : reckP w x y = match due with | none => [] | some i => dec i) (hb : ∀ i, due = some i → i.natAbs ≤ 100000) :
    T4 t ⟨[some .deck, some (.byt n), some (optI x), some (.byt f), some (optI y), some (.byt w), some (optI due), p], .fresh, some d⟩ (fin Q) := by
  unfold T4 t__law_reckoned_right_4
  dsimp only [seq, put, ret', iff', ite', cmpT, cmp, cmp2T, cmpP, cmpEq, cmpNe, cmpLt, cmpLe, cmpGt, cmpGe, cmpIs, cmpNot, cmpIn, rd, rdO, cst, bin, binP, binAdd, binSub, binMul, binDiv, binMod, binAnd, binPow, neg, notE, notT, andT, orT, iteT, tt, vB, vOf, andE, orE, cons', nil', tup', lst', ownL, callF, callP, lenP, absP, maxP, minP, intP, bytesP, octs, rangeP, listP, baP, lenO, bytesO, retO, appL, appB, augI, augO, item, itemP, slc, sliceP, pI, pN, rev, meth, findP, joinP, byts, putT, tN, tT, tNil, tCons, putS, sets, for', iterOf, comp', dkI, dkSet, dkNE, dkPop, dkApp, retDk, intsOf, dget, dNil, dCons, seek, skip, never, St.set, isFresh, lim, V.free, frees, V.isNone, V.isB, inI, inB, lz', lt', uz', ut', nc', nn']
  refine ⟨by trivial, w, n, f, x, y, rfl, hw, hn, hf, ?_⟩
  cases due with
  | none =>
    dsimp only [optI, seq, put, ret', iff', ite', cmpT, cmp, cmp2T, cmpP, cmpEq, cmpNe, cmpLt, cmpLe, cmpGt, cmpGe, cmpIs, cmpNot, cmpIn, rd, rdO, cst, bin, binP, binAdd, binSub, binMul, binDiv, binMod, binAnd, binPow, neg, notE, notT, andT, orT, iteT, tt, vB, vOf, andE, orE, cons', nil', tup', lst', ownL, callF, callP, lenP, absP, maxP, minP, intP, bytesP, octs, rangeP, listP, baP, lenO, bytesO, retO, appL, appB, augI, augO, item, itemP, slc, sliceP, pI, pN, rev, meth, findP, joinP, byts, putT, tN, tT, tNil, tCons, putS, sets, for', iterOf, comp', dkI, dkSet, dkNE, dkPop, dkApp, retDk, intsOf, dget, dNil, dCons, seek, skip, never, St.set, isFresh, lim, V.free, frees, V.isNone, V.isB, inI, inB, lz', lt', uz', ut', nc', nn']
    rw [hd]
    exact ⟨by trivial, hQ _⟩
  | some i =>
    dsimp only [optI, seq, put, ret', iff', ite', cmpT, cmp, cmp2T, cmpP, cmpEq, cmpNe, cmpLt, cmpLe, cmpGt, cmpGe, cmpIs, cmpNot, cmpIn, rd, rdO, cst, bin, binP, binAdd, binSub, binMul, binDiv, binMod, binAnd, binPow, neg, notE, notT, andT, orT, iteT, tt, vB, vOf, andE, orE, cons', nil', tup', lst', ownL, callF, callP, lenP, absP, maxP, minP, intP, bytesP, octs, rangeP, listP, baP, lenO, bytesO, retO, appL, appB, augI, augO, item, itemP, slc, sliceP, pI, pN, rev, meth, findP, joinP, byts, putT, tN, tT, tNil, tCons, putS, sets, for', iterOf, comp', dkI, dkSet, dkNE, dkPop, dkApp, retDk, intsOf, dget, dNil, dCons, seek, skip, never, St.set, isFresh, lim, V.free, frees, V.isNone, V.isB, inI, inB, lz', lt', uz', ut', nc', nn']
    rw [hd]
    refine ⟨by trivial, i, rfl, big 1000000 (by have := hb i rfl; omega), by trivial, ?_⟩
    simp only [beq_self_eq_true]
    exact hQ _

theorem okS {j : Int} (h : j.natAbs ≤ 100000) : ∀ i, some j = some i → i.natAbs ≤ 100000 := fun _ e => Option.some.inj e ▸ h
theorem okM {m : Int} (h : m.natAbs ≤ 90000) : ∀ i, some m = some i → i.natAbs ≤ 100000 := okS (Nat.le_trans h (by decide))
theorem okA {a b : Int} (ha : a.natAbs ≤ 300) (hb : b.natAbs ≤ 90000) : ∀ i, some (a + b) = some i → i.natAbs ≤ 100000 := okS (Nat.le_trans (Int.natAbs_add_le a b) (Nat.le_trans (Nat.add_le_add ha hb) (by decide)))
theorem okB {a b : Int} (ha : a.natAbs ≤ 300) (hb : b.natAbs ≤ 90000) : ∀ i, some (a - b) = some i → i.natAbs ≤ 100000 := okS (Nat.le_trans (Int.natAbs_sub_le a b) (Nat.le_trans (Nat.add_le_add ha hb) (by decide)))
theorem okI {m : Int} (h : m.natAbs ≤ 90000) : m.natAbs < 9223372036854775808 := Nat.lt_of_le_of_lt h (by decide)

theorem reck_mid {t : Int} {Q : V → Option Deck → Prop} {w n f : List UInt8} {x y : Option Int} {d : Deck} (hw : w ∈ words) (hn : Says n x) (hf : Says f y) (hQ : ∀ d', Q (.bool true) (some d')) :
    T3 t ⟨[some .deck, some (.byt n), some (optI x), some (.byt f), some (optI y), some (.byt w), some .none, none], .fresh, some d⟩ (fin Q) := by
  have E := fun (p : Option V) (due : Option Int) => reck_end (t := t) (Q := Q) (d := d) (p := p) (due := due) hw hn hf hQ
  cases x with
  | none => exact E none none rfl fun _ h => nomatch h
  | some a =>
    cases y with
    | none => exact E none none rfl fun _ h => nomatch h
    | some b =>
      have ha := hn.small a rfl
      have hb := hf.small b rfl
      have hq := @quotP_small a b
      have hm := mul_small ha hb
      have hq2 := @mul_small b (quotP a b) hb (Nat.le_trans quotP_small ha)
      have hb2 : b.natAbs ≤ 90000 := Nat.le_trans hb (by decide)
      have hi : (if decide (a < 0) == decide (b < 0) then (1 : Int) else -1).natAbs < 9223372036854775808 := by split <;> decide
      have hq0 := quot_eq a b
      simp only [words, List.mem_cons, List.not_mem_nil, or_false] at hw
      -- the part
      have part : ∀ (k : Sx) (K : Fl → St → Prop), (b = 0 → k ⟨[some .deck, some (.byt n), some (.int a), some (.byt f), some (.int b), some (.byt w), some .none, some .none], .fresh, some d⟩ K) →
          (b ≠ 0 → k ⟨[some .deck, some (.byt n), some (.int a), some (.byt f), some (.int b), some (.byt w), some .none, some (.int (quotP a b))], .fresh, some d⟩ K) →
          seq (put 7 (ite' (cmpT .Eq (rd 4) (cst (.int 0))) (cst .none) (bin .Mult (bin .FloorDiv (callP absP (cons' (rd 2) nil')) (callP absP (cons' (rd 4) nil'))) (ite' (cmpT .Eq (cmp .Lt (rd 2) (cst (.int 0))) (cmp .Lt (rd 4) (cst (.int 0)))) (cst (.int 1)) (neg (cst (.int 1))))))) k
            ⟨[some .deck, some (.byt n), some (.int a), some (.byt f), some (.int b), some (.byt w), some .none, none], .fresh, some d⟩ K := by
        intro k K h1 h2
        dsimp only [seq, put, ret', iff', ite', cmpT, cmp, cmp2T, cmpP, cmpEq, cmpNe, cmpLt, cmpLe, cmpGt, cmpGe, cmpIs, cmpNot, cmpIn, rd, rdO, cst, bin, binP, binAdd, binSub, binMul, binDiv, binMod, binAnd, binPow, neg, notE, notT, andT, orT, iteT, tt, vB, vOf, andE, orE, cons', nil', tup', lst', ownL, callF, callP, lenP, absP, maxP, minP, intP, bytesP, octs, rangeP, listP, baP, lenO, bytesO, retO, appL, appB, augI, augO, item, itemP, slc, sliceP, pI, pN, rev, meth, findP, joinP, byts, putT, tN, tT, tNil, tCons, putS, sets, for', iterOf, comp', dkI, dkSet, dkNE, dkPop, dkApp, retDk, intsOf, dget, dNil, dCons, seek, skip, never, St.set, isFresh, lim, V.free, frees, V.isNone, V.isB, inI, inB, lz', lt', uz', ut', nc', nn']
        by_cases h0 : b = 0
        · subst h0; exact h1 rfl
        · rw [show (b == 0) = false by simpa using h0]
          have h2 := h2 h0
          refine ⟨by omega, by omega, ?_⟩
          cases hc : (decide (a < 0) == decide (b < 0)) with
          | true =>
            rw [hc, if_pos rfl] at hq0
            dsimp only
            rw [hq0]
            exact ⟨.inr (by decide), h2⟩
          | false =>
            rw [hc, if_neg (by decide)] at hq0
            dsimp only
            rw [hq0]
            exact ⟨.inr (by decide), h2⟩
      have L3 : ∀ xs : List V, xs.length ≤ 1000000 → lim xs := fun _ h => h
      by_cases hx : w = [120]
      · subst hx
        exact E none none rfl fun _ h => nomatch h
      have enter : t__law_reckoned_right_3 (Number t) (Pick t) Whole Reck Dec = T3 t := rfl
      have hne : (w != [120]) = true := by simpa using hx
      unfold T3 t__law_reckoned_right_3
      dsimp only [optI, seq, put, ret', iff', ite', cmpT, cmp, cmp2T, cmpP, cmpEq, cmpNe, cmpLt, cmpLe, cmpGt, cmpGe, cmpIs, cmpNot, cmpIn, rd, rdO, cst, bin, binP, binAdd, binSub, binMul, binDiv, binMod, binAnd, binPow, neg, notE, notT, andT, orT, iteT, tt, vB, vOf, andE, orE, cons', nil', tup', lst', ownL, callF, callP, lenP, absP, maxP, minP, intP, bytesP, octs, rangeP, listP, baP, lenO, bytesO, retO, appL, appB, augI, augO, item, itemP, slc, sliceP, pI, pN, rev, meth, findP, joinP, byts, putT, tN, tT, tNil, tCons, putS, sets, for', iterOf, comp', dkI, dkSet, dkNE, dkPop, dkApp, retDk, intsOf, dget, dNil, dCons, seek, skip, never, St.set, isFresh, lim, V.free, frees, V.isNone, V.isB, inI, inB, lz', lt', uz', ut', nc', nn']
      simp only [Bool.not_false, hne]
      unfold c__law_reckoned_right_2
      refine part _ _ (fun h0 => ?_) (fun h0 => ?_)
      · subst h0
        have E0 := fun (due : Option Int) => E (some .none) due
        rcases hw with rfl | rfl | rfl | rfl | rfl | rfl | rfl | rfl | rfl | rfl | rfl | rfl | rfl
        · exact ⟨L3 _ (by decide), E0 none rfl fun _ h => nomatch h⟩
        · exact ⟨L3 _ (by decide), E0 none rfl fun _ h => nomatch h⟩
        · exact ⟨L3 _ (by decide), E0 none rfl fun _ h => nomatch h⟩
        · exact ⟨L3 _ (by decide), L3 _ (by decide), E0 (some (a + 0)) rfl (okA ha (by decide))⟩
        · exact ⟨L3 _ (by decide), L3 _ (by decide), E0 (some (a - 0)) rfl (okB ha (by decide))⟩
        · exact ⟨L3 _ (by decide), L3 _ (by decide), .inr (by decide), E0 (some (a * 0)) rfl (okM (mul_small ha (by decide)))⟩
        · exact ⟨L3 _ (by decide), L3 _ (by decide), E0 (some (if (a == 0) then 1 else 0)) (Eq.trans rfl (decb _).symm) (smallb _)⟩
        · exact ⟨L3 _ (by decide), L3 _ (by decide), E0 (some (if (a != 0) then 1 else 0)) (Eq.trans rfl (decb _).symm) (smallb _)⟩
        · exact ⟨L3 _ (by decide), L3 _ (by decide), E0 (some (if decide (a < 0) then 1 else 0)) (Eq.trans rfl (decb _).symm) (smallb _)⟩
        · exact ⟨L3 _ (by decide), L3 _ (by decide), E0 (some (if decide (a > 0) then 1 else 0)) (Eq.trans rfl (decb _).symm) (smallb _)⟩
        · exact ⟨L3 _ (by decide), L3 _ (by decide), E0 (some (if decide (a ≤ 0) then 1 else 0)) (Eq.trans rfl (decb _).symm) (smallb _)⟩
        · exact ⟨L3 _ (by decide), L3 _ (by decide), E0 (some (if decide (a ≥ 0) then 1 else 0)) (Eq.trans rfl (decb _).symm) (smallb _)⟩
        · exact absurd rfl hx
      · have E1 := fun (due : Option Int) => E (some (.int (quotP a b))) due
        have e7 : ∀ w', w' = [47] ∨ w' = [109] ∨ w' = [37] → reckP w' (some a) (some b) = if w' = [47] then dec (quotP a b) else dec (a - b * quotP a b) := by
          intro w' hw'
          unfold reckP
          dsimp only
          rw [if_neg (fun x => h0 x.2)]
          rcases hw' with rfl | rfl | rfl <;> rfl
        rcases hw with rfl | rfl | rfl | rfl | rfl | rfl | rfl | rfl | rfl | rfl | rfl | rfl | rfl
        · exact ⟨L3 _ (by decide), E1 (some (quotP a b)) (e7 _ (.inl rfl)) (okM (Nat.le_trans quotP_small (Nat.le_trans ha (by decide))))⟩
        · exact ⟨L3 _ (by decide), .inl (okI hb2), E1 (some (a - b * quotP a b)) (e7 _ (.inr (.inl rfl))) (okB ha hq2)⟩
        · exact ⟨L3 _ (by decide), .inl (okI hb2), E1 (some (a - b * quotP a b)) (e7 _ (.inr (.inr rfl))) (okB ha hq2)⟩
        · exact ⟨L3 _ (by decide), L3 _ (by decide), E1 (some (a + b)) rfl (okA ha hb2)⟩
        · exact ⟨L3 _ (by decide), L3 _ (by decide), E1 (some (a - b)) rfl (okB ha hb2)⟩
        · exact ⟨L3 _ (by decide), L3 _ (by decide), .inl (okI (Nat.le_trans ha (by decide))), E1 (some (a * b)) rfl (okM hm)⟩
        · exact ⟨L3 _ (by decide), L3 _ (by decide), E1 (some (if (a == b) then 1 else 0)) (Eq.trans rfl (decb _).symm) (smallb _)⟩
        · exact ⟨L3 _ (by decide), L3 _ (by decide), E1 (some (if (a != b) then 1 else 0)) (Eq.trans rfl (decb _).symm) (smallb _)⟩
        · exact ⟨L3 _ (by decide), L3 _ (by decide), E1 (some (if decide (a < b) then 1 else 0)) (Eq.trans rfl (decb _).symm) (smallb _)⟩
        · exact ⟨L3 _ (by decide), L3 _ (by decide), E1 (some (if decide (a > b) then 1 else 0)) (Eq.trans rfl (decb _).symm) (smallb _)⟩
        · exact ⟨L3 _ (by decide), L3 _ (by decide), E1 (some (if decide (a ≤ b) then 1 else 0)) (Eq.trans rfl (decb _).symm) (smallb _)⟩
        · exact ⟨L3 _ (by decide), L3 _ (by decide), E1 (some (if decide (a ≥ b) then 1 else 0)) (Eq.trans rfl (decb _).symm) (smallb _)⟩
        · exact absurd rfl hx
theorem fReckRight {t : Int} {ds dk Q} (h : Right t ds dk Q) : entry Γ__law_reckoned_right 1 (sem__law_reckoned_right (Number (t + 10)) (Pick (t + 10)) Whole Reck Dec) ds dk Q := by
  obtain ⟨d, rfl, rfl, hd, h⟩ := h
  refine ⟨rfl, ?_⟩
  rw [show start Γ__law_reckoned_right [.deck] (some d) = ⟨[some .deck, none, none, none, none, none, none, none], .fresh, some d⟩ from rfl]
  have hdt := hd.hi
  show t__law_reckoned_right_0 _ _ _ _ _ _ _
  unfold t__law_reckoned_right_0
  dsimp only [seq, put, ret', iff', ite', cmpT, cmp, cmp2T, cmpP, cmpEq, cmpNe, cmpLt, cmpLe, cmpGt, cmpGe, cmpIs, cmpNot, cmpIn, rd, rdO, cst, bin, binP, binAdd, binSub, binMul, binDiv, binMod, binAnd, binPow, neg, notE, notT, andT, orT, iteT, tt, vB, vOf, andE, orE, cons', nil', tup', lst', ownL, callF, callP, lenP, absP, maxP, minP, intP, bytesP, octs, rangeP, listP, baP, lenO, bytesO, retO, appL, appB, augI, augO, item, itemP, slc, sliceP, pI, pN, rev, meth, findP, joinP, byts, putT, tN, tT, tNil, tCons, putS, sets, for', iterOf, comp', dkI, dkSet, dkNE, dkPop, dkApp, retDk, intsOf, dget, dNil, dCons, seek, skip, never, St.set, isFresh, lim, V.free, frees, V.isNone, V.isB, inI, inB, lz', lt', uz', ut', nc', nn']
  refine ⟨by trivial, d, rfl, rfl, hd.mono (by omega), fun n x d₁ hn hd₁ => ?_⟩
  refine ⟨by trivial, d₁, rfl, rfl, hd₁.mono (by omega), fun f y d₂ hf hd₂ => ?_⟩
  have := hd₁.hi
  refine ⟨by decide, by trivial, by trivial, by trivial, ?_⟩
  show t__law_reckoned_right_1 _ _ _ _ _ _ _
  unfold t__law_reckoned_right_1
  dsimp only [List.reverse_cons, List.reverse_nil, List.nil_append, List.cons_append, seq, put, ret', iff', ite', cmpT, cmp, cmp2T, cmpP, cmpEq, cmpNe, cmpLt, cmpLe, cmpGt, cmpGe, cmpIs, cmpNot, cmpIn, rd, rdO, cst, bin, binP, binAdd, binSub, binMul, binDiv, binMod, binAnd, binPow, neg, notE, notT, andT, orT, iteT, tt, vB, vOf, andE, orE, cons', nil', tup', lst', ownL, callF, callP, lenP, absP, maxP, minP, intP, bytesP, octs, rangeP, listP, baP, lenO, bytesO, retO, appL, appB, augI, augO, item, itemP, slc, sliceP, pI, pN, rev, meth, findP, joinP, byts, putT, tN, tT, tNil, tCons, putS, sets, for', iterOf, comp', dkI, dkSet, dkNE, dkPop, dkApp, retDk, intsOf, dget, dNil, dCons, seek, skip, never, St.set, isFresh, lim, V.free, frees, V.isNone, V.isB, inI, inB, lz', lt', uz', ut', nc', nn']
  refine ⟨by decide, by trivial, _, d₂, rfl, by simp, by simp, by simp [V.free], rfl, hd₂.mono (by omega), fun w hw d₃ hd₃ ht₃ => ?_⟩
  obtain ⟨w, rfl, hw'⟩ : ∃ b, w = .byt b ∧ b ∈ words := by
    simp only [List.mem_cons, List.not_mem_nil, or_false] at hw
    rcases hw with rfl | rfl | rfl | rfl | rfl | rfl | rfl | rfl | rfl | rfl | rfl | rfl | rfl <;> exact ⟨_, rfl, by decide⟩
  refine ⟨by decide, by trivial, ?_⟩
  show t__law_reckoned_right_2 _ _ _ _ _ ⟨[some .deck, some (.byt n), some (optI x), some (.byt f), some (optI y), some (.byt w), some .none, none], .fresh, some d₃⟩ (fin Q)
  unfold t__law_reckoned_right_2
  have E := reck_mid (t := t + 10) (d := d₃) hw' hn hf h
  cases x with
  | none =>
    refine ⟨by trivial, n, rfl, hn.len, ?_⟩
    rw [hn.whole]
    cases y with
    | none =>
      refine ⟨by trivial, f, rfl, hf.len, ?_⟩
      rw [hf.whole]
      exact E
    | some b =>
      refine ⟨by trivial, f, rfl, hf.len, ?_⟩
      rw [hf.whole]
      have hb : (b != b) = false := by simp
      dsimp only [optI, seq, put, ret', iff', ite', cmpT, cmp, cmp2T, cmpP, cmpEq, cmpNe, cmpLt, cmpLe, cmpGt, cmpGe, cmpIs, cmpNot, cmpIn, rd, rdO, cst, bin, binP, binAdd, binSub, binMul, binDiv, binMod, binAnd, binPow, neg, notE, notT, andT, orT, iteT, tt, vB, vOf, andE, orE, cons', nil', tup', lst', ownL, callF, callP, lenP, absP, maxP, minP, intP, bytesP, octs, rangeP, listP, baP, lenO, bytesO, retO, appL, appB, augI, augO, item, itemP, slc, sliceP, pI, pN, rev, meth, findP, joinP, byts, putT, tN, tT, tNil, tCons, putS, sets, for', iterOf, comp', dkI, dkSet, dkNE, dkPop, dkApp, retDk, intsOf, dget, dNil, dCons, seek, skip, never, St.set, isFresh, lim, V.free, frees, V.isNone, V.isB, inI, inB, lz', lt', uz', ut', nc', nn']
      rw [hb]
      exact E
  | some a =>
    refine ⟨by trivial, n, rfl, hn.len, ?_⟩
    rw [hn.whole]
    have ha : (a != a) = false := by simp
    dsimp only [optI, seq, put, ret', iff', ite', cmpT, cmp, cmp2T, cmpP, cmpEq, cmpNe, cmpLt, cmpLe, cmpGt, cmpGe, cmpIs, cmpNot, cmpIn, rd, rdO, cst, bin, binP, binAdd, binSub, binMul, binDiv, binMod, binAnd, binPow, neg, notE, notT, andT, orT, iteT, tt, vB, vOf, andE, orE, cons', nil', tup', lst', ownL, callF, callP, lenP, absP, maxP, minP, intP, bytesP, octs, rangeP, listP, baP, lenO, bytesO, retO, appL, appB, augI, augO, item, itemP, slc, sliceP, pI, pN, rev, meth, findP, joinP, byts, putT, tN, tT, tNil, tCons, putS, sets, for', iterOf, comp', dkI, dkSet, dkNE, dkPop, dkApp, retDk, intsOf, dget, dNil, dCons, seek, skip, never, St.set, isFresh, lim, V.free, frees, V.isNone, V.isB, inI, inB, lz', lt', uz', ut', nc', nn']
    rw [ha]
    cases y with
    | none =>
      refine ⟨by trivial, f, rfl, hf.len, ?_⟩
      rw [hf.whole]
      exact E
    | some b =>
      refine ⟨by trivial, f, rfl, hf.len, ?_⟩
      rw [hf.whole]
      have hb : (b != b) = false := by simp
      dsimp only [optI, seq, put, ret', iff', ite', cmpT, cmp, cmp2T, cmpP, cmpEq, cmpNe, cmpLt, cmpLe, cmpGt, cmpGe, cmpIs, cmpNot, cmpIn, rd, rdO, cst, bin, binP, binAdd, binSub, binMul, binDiv, binMod, binAnd, binPow, neg, notE, notT, andT, orT, iteT, tt, vB, vOf, andE, orE, cons', nil', tup', lst', ownL, callF, callP, lenP, absP, maxP, minP, intP, bytesP, octs, rangeP, listP, baP, lenO, bytesO, retO, appL, appB, augI, augO, item, itemP, slc, sliceP, pI, pN, rev, meth, findP, joinP, byts, putT, tN, tT, tNil, tCons, putS, sets, for', iterOf, comp', dkI, dkSet, dkNE, dkPop, dkApp, retDk, intsOf, dget, dNil, dCons, seek, skip, never, St.set, isFresh, lim, V.free, frees, V.isNone, V.isB, inI, inB, lz', lt', uz', ut', nc', nn']
      rw [hb]
      exact E
end

section
theorem joinL_flat (bs : List (List UInt8)) : joinL [] bs = bs.flatten := by
  cases bs with
  | nil => rfl
  | cons b r => simp [joinL]
theorem byts_map {α : Type} : ∀ (xs : List α) (g : α → List UInt8) (Q : List (List UInt8) → Prop), Q (xs.map g) → byts (xs.map fun x => .byt (g x)) Q
  | [], g, Q, h => h
  | x :: r, g, Q, h => by
    simp only [List.map_cons, byts]
    exact byts_map r g (fun bs => Q (g x :: bs)) h
theorem u8_int (c : UInt8) : ((c.toNat : Nat) : Int).toNat.toUInt8 = c := by
  rw [Int.toNat_natCast]; simp

noncomputable def q1 (f : Bool) (c : UInt8) : List UInt8 := (if f then (if c = 35 then [35] else []) else (if special.contains c then [92] else [])) ++ [c]
noncomputable def quoteP (f : Bool) (b : List UInt8) : List UInt8 := b.flatMap (q1 f)
theorem int35 (c : UInt8) : ((c.toNat : Int) == 35) = decide (c = 35) := by
  by_cases h : c = 35
  · subst h; rfl
  · have : c.toNat ≠ 35 := fun e => h (UInt8.toNat_inj.mp e)
    rw [decide_eq_false h, beq_eq_false_iff_ne]; lia
theorem loop_quoted (dk : Option Deck) (Q : Fl → St → Prop) (x : Option V) (f : Bool) : ∀ (b acc : List UInt8) (y : Option V), acc.length + 2 * b.length ≤ 100000 →
    (∀ y', Q .next ⟨[x, some (.bool f), some .own, y'], .live (.byt (acc ++ quoteP f b)), dk⟩) →
    forL (tN 3) b_format_quoted_1 (b.map fun c => .int c.toNat) ⟨[x, some (.bool f), some .own, y], .live (.byt acc), dk⟩ Q := by
  intro b
  induction b with
  | nil => intro acc y hl h; simpa [quoteP, forL] using h y
  | cons c r ih =>
    intro acc y hl h
    simp only [List.length_cons] at hl
    simp only [List.map_cons, forL, seq, put, ret', iff', ite', cmpT, cmp, cmp2T, cmpP, cmpEq, cmpNe, cmpLt, cmpLe, cmpGt, cmpGe, cmpIs, cmpNot, cmpIn, rd, rdO, cst, bin, binP, binAdd, binSub, binMul, binDiv, binMod, binAnd, binPow, neg, notE, notT, andT, orT, iteT, tt, vB, vOf, andE, orE, cons', nil', tup', lst', ownL, callF, callP, lenP, absP, maxP, minP, intP, bytesP, octs, rangeP, listP, baP, lenO, bytesO, retO, appL, appB, augI, augO, item, itemP, slc, sliceP, pI, pN, rev, meth, findP, joinP, byts, putT, tN, tT, tNil, tCons, putS, sets, for', iterOf, comp', dkI, dkSet, dkNE, dkPop, dkApp, retDk, intsOf, dget, dNil, dCons, seek, skip, never, St.set, isFresh, lim, V.free, frees, V.isNone, V.isB, inI, inB, lz', lt', uz', ut', nc', nn']
    unfold b_format_quoted_1
    simp only [int35, u8_int, seq, put, ret', iff', ite', cmpT, cmp, cmp2T, cmpP, cmpEq, cmpNe, cmpLt, cmpLe, cmpGt, cmpGe, cmpIs, cmpNot, cmpIn, rd, rdO, cst, bin, binP, binAdd, binSub, binMul, binDiv, binMod, binAnd, binPow, neg, notE, notT, andT, orT, iteT, tt, vB, vOf, andE, orE, cons', nil', tup', lst', ownL, callF, callP, lenP, absP, maxP, minP, intP, bytesP, octs, rangeP, listP, baP, lenO, bytesO, retO, appL, appB, augI, augO, item, itemP, slc, sliceP, pI, pN, rev, meth, findP, joinP, byts, putT, tN, tT, tNil, tCons, putS, sets, for', iterOf, comp', dkI, dkSet, dkNE, dkPop, dkApp, retDk, intsOf, dget, dNil, dCons, seek, skip, never, St.set, isFresh, lim, V.free, frees, V.isNone, V.isB, inI, inB, lz', lt', uz', ut', nc', nn']
    have hc := c.toNat_lt
    have go : ∀ pre : List UInt8, pre.length ≤ 1 → q1 f c = pre ++ [c] →
        (0 ≤ (c.toNat : Int) ∧ (c.toNat : Int) < 256 ∧ (acc ++ pre).length < 16777216) ∧ forL (tN 3) b_format_quoted_1 (r.map fun c => .int c.toNat) ⟨[x, some (.bool f), some .own, some (.int c.toNat)], .live (.byt (acc ++ pre ++ [c])), dk⟩ Q := by
      intro pre hp hq
      refine ⟨⟨by lia, by lia, by simp; lia⟩, ih _ _ (by simp; lia) fun y' => ?_⟩
      have := h y'
      unfold quoteP at this ⊢
      rw [List.flatMap_cons, hq] at this
      simpa using this
    cases f with
    | true =>
      by_cases h35 : c = 35
      · simp only [h35, decide_true]
        have := go [35] (by simp) (by subst h35; rfl)
        subst h35
        exact ⟨⟨by decide, by decide, by lia⟩, this⟩
      · simp only [h35, decide_false]
        have := go [] (by simp) (by unfold q1; rw [if_pos rfl, if_neg h35])
        rw [List.append_nil] at this; exact this
    | false =>
      simp only [Bool.not_false]
      refine ⟨⟨by lia, by lia⟩, ?_⟩
      cases hs : special.contains c with
      | true =>
        have := go [92] (by simp) (by unfold q1; rw [if_neg (by decide), hs]; rfl)
        exact ⟨⟨by decide, by decide, by lia⟩, this⟩
      | false =>
        have := go [] (by simp) (by unfold q1; rw [if_neg (by decide), hs]; rfl)
        rw [List.append_nil] at this; exact this
noncomputable def Quoted : Spec := fun ds dk Q => ∃ (b : List UInt8) (f : Bool), ds = [.byt b, .bool f] ∧ b.length ≤ 1000 ∧ Q (.byt (quoteP f b)) dk
theorem quoteP_len (f : Bool) (b : List UInt8) : (quoteP f b).length ≤ 2 * b.length := by
  induction b with
  | nil => simp [quoteP]
  | cons c r ih =>
    unfold quoteP at ih ⊢
    rw [List.flatMap_cons, List.length_append, List.length_cons]
    have : (q1 f c).length ≤ 2 := by unfold q1; split <;> split <;> simp
    lia
theorem fQuoted {ds dk Q} (h : Quoted ds dk Q) : entry Γ_format_quoted 2 sem_format_quoted ds dk Q := by
  obtain ⟨b, f, rfl, hb, h⟩ := h
  refine ⟨rfl, ?_⟩
  rw [show start Γ_format_quoted [.byt b, .bool f] dk = ⟨[some (.byt b), some (.bool f), none, none], .fresh, dk⟩ from rfl]
  show t_format_quoted_0 _ _
  unfold t_format_quoted_0
  dsimp only [seq, put, ret', iff', ite', cmpT, cmp, cmp2T, cmpP, cmpEq, cmpNe, cmpLt, cmpLe, cmpGt, cmpGe, cmpIs, cmpNot, cmpIn, rd, rdO, cst, bin, binP, binAdd, binSub, binMul, binDiv, binMod, binAnd, binPow, neg, notE, notT, andT, orT, iteT, tt, vB, vOf, andE, orE, cons', nil', tup', lst', ownL, callF, callP, lenP, absP, maxP, minP, intP, bytesP, octs, rangeP, listP, baP, lenO, bytesO, retO, appL, appB, augI, augO, item, itemP, slc, sliceP, pI, pN, rev, meth, findP, joinP, byts, putT, tN, tT, tNil, tCons, putS, sets, for', iterOf, comp', dkI, dkSet, dkNE, dkPop, dkApp, retDk, intsOf, dget, dNil, dCons, seek, skip, never, St.set, isFresh, lim, V.free, frees, V.isNone, V.isB, inI, inB, lz', lt', uz', ut', nc', nn']
  refine ⟨trivial, ?_⟩
  unfold t_format_quoted_1 w_format_quoted_1
  dsimp only [seq, put, ret', iff', ite', cmpT, cmp, cmp2T, cmpP, cmpEq, cmpNe, cmpLt, cmpLe, cmpGt, cmpGe, cmpIs, cmpNot, cmpIn, rd, rdO, cst, bin, binP, binAdd, binSub, binMul, binDiv, binMod, binAnd, binPow, neg, notE, notT, andT, orT, iteT, tt, vB, vOf, andE, orE, cons', nil', tup', lst', ownL, callF, callP, lenP, absP, maxP, minP, intP, bytesP, octs, rangeP, listP, baP, lenO, bytesO, retO, appL, appB, augI, augO, item, itemP, slc, sliceP, pI, pN, rev, meth, findP, joinP, byts, putT, tN, tT, tNil, tCons, putS, sets, for', iterOf, comp', dkI, dkSet, dkNE, dkPop, dkApp, retDk, intsOf, dget, dNil, dCons, seek, skip, never, St.set, isFresh, lim, V.free, frees, V.isNone, V.isB, inI, inB, lz', lt', uz', ut', nc', nn']
  refine loop_quoted dk _ _ f b [] none (by simp; lia) fun y' => ?_
  unfold t_format_quoted_2
  dsimp only [List.nil_append, seq, put, ret', iff', ite', cmpT, cmp, cmp2T, cmpP, cmpEq, cmpNe, cmpLt, cmpLe, cmpGt, cmpGe, cmpIs, cmpNot, cmpIn, rd, rdO, cst, bin, binP, binAdd, binSub, binMul, binDiv, binMod, binAnd, binPow, neg, notE, notT, andT, orT, iteT, tt, vB, vOf, andE, orE, cons', nil', tup', lst', ownL, callF, callP, lenP, absP, maxP, minP, intP, bytesP, octs, rangeP, listP, baP, lenO, bytesO, retO, appL, appB, augI, augO, item, itemP, slc, sliceP, pI, pN, rev, meth, findP, joinP, byts, putT, tN, tT, tNil, tCons, putS, sets, for', iterOf, comp', dkI, dkSet, dkNE, dkPop, dkApp, retDk, intsOf, dget, dNil, dCons, seek, skip, never, St.set, isFresh, lim, V.free, frees, V.isNone, V.isB, inI, inB, lz', lt', uz', ut', nc', nn']
  have := quoteP_len f b
  exact ⟨by lia, by trivial, h⟩

theorem listed : ∀ (xs : List V) , (∀ x ∈ xs, ∃ c : UInt8, x = .int c.toNat) → ∃ b : List UInt8, xs = b.map fun c => .int c.toNat
  | [], _ => ⟨[], rfl⟩
  | x :: xs, h => by
    obtain ⟨c, rfl⟩ := h x List.mem_cons_self
    obtain ⟨b, rfl⟩ := listed xs fun y hy => h y (List.mem_cons_of_mem _ hy)
    exact ⟨c :: b, rfl⟩
theorem range_map (r : Int) (h0 : 0 ≤ r) (h1 : r < 100) : iterOf (.rng r) = some ((List.range r.toNat).map fun (j : Nat) => .int j) := by
  unfold iterOf; dsimp only; rw [if_pos ⟨h0, by lia⟩]

theorem sum_le {α : Type} (xs : List α) (g : α → List UInt8) (k : Nat) (h : ∀ x ∈ xs, (g x).length ≤ k) : ((xs.map g).map (·.length)).sum ≤ k * xs.length := by
  induction xs with
  | nil => simp
  | cons x r ih =>
    simp only [List.map_cons, List.sum_cons, List.length_cons, Nat.mul_succ]
    have := h x List.mem_cons_self
    have := ih fun y hy => h y (List.mem_cons_of_mem _ hy)
    lia
theorem q1_len (f : Bool) (c : UInt8) : (q1 f c).length ≤ 2 := by unfold q1; split <;> split <;> simp

theorem fQuotedRight {t : Int} {ds dk Q} (h : Right t ds dk Q) : entry Γ__law_quoted_right 1 (sem__law_quoted_right (Draw (t + 10)) (Pick (t + 10)) Quoted) ds dk Q := by
  obtain ⟨d, rfl, rfl, hd, h⟩ := h
  refine ⟨rfl, ?_⟩
  rw [show start Γ__law_quoted_right [.deck] (some d) = ⟨[some .deck, none, none, none, none], .fresh, some d⟩ from rfl]
  have hdt := hd.hi
  show t__law_quoted_right_0 _ _ _ _ _
  unfold t__law_quoted_right_0
  dsimp only [seq, put, ret', iff', ite', cmpT, cmp, cmp2T, cmpP, cmpEq, cmpNe, cmpLt, cmpLe, cmpGt, cmpGe, cmpIs, cmpNot, cmpIn, rd, rdO, cst, bin, binP, binAdd, binSub, binMul, binDiv, binMod, binAnd, binPow, neg, notE, notT, andT, orT, iteT, tt, vB, vOf, andE, orE, cons', nil', tup', lst', ownL, callF, callP, lenP, absP, maxP, minP, intP, bytesP, octs, rangeP, listP, baP, lenO, bytesO, retO, appL, appB, augI, augO, item, itemP, slc, sliceP, pI, pN, rev, meth, findP, joinP, byts, putT, tN, tT, tNil, tCons, putS, sets, for', iterOf, comp', dkI, dkSet, dkNE, dkPop, dkApp, retDk, intsOf, dget, dNil, dCons, seek, skip, never, St.set, isFresh, lim, V.free, frees, V.isNone, V.isB, inI, inB, lz', lt', uz', ut', nc', nn']
  show t__law_quoted_right_1 _ _ _ ⟨[some .deck, some (.byt special), none, none, none], .fresh, some d⟩ _
  unfold t__law_quoted_right_1
  dsimp only [seq, put, ret', iff', ite', cmpT, cmp, cmp2T, cmpP, cmpEq, cmpNe, cmpLt, cmpLe, cmpGt, cmpGe, cmpIs, cmpNot, cmpIn, rd, rdO, cst, bin, binP, binAdd, binSub, binMul, binDiv, binMod, binAnd, binPow, neg, notE, notT, andT, orT, iteT, tt, vB, vOf, andE, orE, cons', nil', tup', lst', ownL, callF, callP, lenP, absP, maxP, minP, intP, bytesP, octs, rangeP, listP, baP, lenO, bytesO, retO, appL, appB, augI, augO, item, itemP, slc, sliceP, pI, pN, rev, meth, findP, joinP, byts, putT, tN, tT, tNil, tCons, putS, sets, for', iterOf, comp', dkI, dkSet, dkNE, dkPop, dkApp, retDk, intsOf, dget, dNil, dCons, seek, skip, never, St.set, isFresh, lim, V.free, frees, V.isNone, V.isB, inI, inB, lz', lt', uz', ut', nc', nn']
  refine ⟨by trivial, 7, d, rfl, by decide, by decide, rfl, hd.mono (by lia), fun r d₁ h0 h1 hd₁ ht₁ => ?_⟩
  have hr : ((0 ≤ r ∧ r.toNat < 1000000) = True) := by simp; lia
  simp only [hr, if_true]
  refine ⟨trivial, ?_⟩
  rw [show inner Γ__law_quoted_right_1 [0, 1] ⟨[some .deck, some (.byt special), none, none, none], .fresh, some d₁⟩ = ⟨[some .deck, some (.byt special), none], .fresh, some d₁⟩ from rfl]
  refine compL_any (fun k st => ∃ o d', st = ⟨[some .deck, some (.byt special), o], .fresh, some d'⟩ ∧ Dk (d.turn + 1 + k) d') (fun x => ∃ c : UInt8, x = .int c.toNat) 7 _ _ [] 0 _ (by simp; lia) ?_ (by simp; lia) ⟨_, _, rfl, hd₁.mono (by lia)⟩ ?_
  · rintro y hy k st R hk ⟨o, d', rfl, hd'⟩ hR
    dsimp only [seq, put, ret', iff', ite', cmpT, cmp, cmp2T, cmpP, cmpEq, cmpNe, cmpLt, cmpLe, cmpGt, cmpGe, cmpIs, cmpNot, cmpIn, rd, rdO, cst, bin, binP, binAdd, binSub, binMul, binDiv, binMod, binAnd, binPow, neg, notE, notT, andT, orT, iteT, tt, vB, vOf, andE, orE, cons', nil', tup', lst', ownL, callF, callP, lenP, absP, maxP, minP, intP, bytesP, octs, rangeP, listP, baP, lenO, bytesO, retO, appL, appB, augI, augO, item, itemP, slc, sliceP, pI, pN, rev, meth, findP, joinP, byts, putT, tN, tT, tNil, tCons, putS, sets, for', iterOf, comp', dkI, dkSet, dkNE, dkPop, dkApp, retDk, intsOf, dget, dNil, dCons, seek, skip, never, St.set, isFresh, lim, V.free, frees, V.isNone, V.isB, inI, inB, lz', lt', uz', ut', nc', nn']
    have := hd'.hi
    refine ⟨by decide, by decide, by decide, by trivial, _, d', rfl, by simp, by simp [special], ?_, rfl, hd'.mono (by lia), fun x hx d₂ hd₂ ht₂ => ?_⟩
    · intro x hx
      rcases List.mem_append.mp hx with hx | hx
      · obtain ⟨c, _, rfl⟩ := List.mem_map.mp hx; rfl
      · simp only [List.mem_cons, List.not_mem_nil, or_false] at hx
        rcases hx with rfl | rfl | rfl | rfl | rfl | rfl | rfl | rfl | rfl | rfl <;> rfl
    · refine hR x _ ?_ ⟨_, d₂, rfl, hd₂.mono (by lia)⟩
      rcases List.mem_append.mp hx with hx | hx
      · obtain ⟨c, _, rfl⟩ := List.mem_map.mp hx; exact ⟨c, rfl⟩
      · simp only [List.mem_cons, List.not_mem_nil, or_false] at hx
        rcases hx with rfl | rfl | rfl | rfl | rfl | rfl | rfl | rfl | rfl | rfl
        · exact ⟨97, rfl⟩
        · exact ⟨65, rfl⟩
        · exact ⟨48, rfl⟩
        · exact ⟨45, rfl⟩
        · exact ⟨46, rfl⟩
        · exact ⟨47, rfl⟩
        · exact ⟨93, rfl⟩
        · exact ⟨195, rfl⟩
        · exact ⟨10, rfl⟩
        · exact ⟨58, rfl⟩
  · rintro xs st hl hx ⟨o, d', rfl, hd'⟩
    obtain ⟨b, rfl⟩ := listed xs hx
    simp only [List.length_map, List.length_range] at hl
    dsimp only [List.nil_append, seq, put, ret', iff', ite', cmpT, cmp, cmp2T, cmpP, cmpEq, cmpNe, cmpLt, cmpLe, cmpGt, cmpGe, cmpIs, cmpNot, cmpIn, rd, rdO, cst, bin, binP, binAdd, binSub, binMul, binDiv, binMod, binAnd, binPow, neg, notE, notT, andT, orT, iteT, tt, vB, vOf, andE, orE, cons', nil', tup', lst', ownL, callF, callP, lenP, absP, maxP, minP, intP, bytesP, octs, rangeP, listP, baP, lenO, bytesO, retO, appL, appB, augI, augO, item, itemP, slc, sliceP, pI, pN, rev, meth, findP, joinP, byts, putT, tN, tT, tNil, tCons, putS, sets, for', iterOf, comp', dkI, dkSet, dkNE, dkPop, dkApp, retDk, intsOf, dget, dNil, dCons, seek, skip, never, St.set, isFresh, lim, V.free, frees, V.isNone, V.isB, inI, inB, lz', lt', uz', ut', nc', nn']
    refine ⟨trivial, by simp; lia, ?_⟩
    refine octs_map b (fun c => c.toNat) _ (fun c _ => by have := c.toNat_lt; lia) ?_
    simp only [u8_int, List.map_id']
    have hb : b.length ≤ 10 := by lia
    show t__law_quoted_right_2 _ _ _ ⟨[some .deck, some (.byt special), some (.byt b), none, none], .fresh, some d'⟩ _
    unfold t__law_quoted_right_2
    simp only [seq, put, ret', iff', ite', cmpT, cmp, cmp2T, cmpP, cmpEq, cmpNe, cmpLt, cmpLe, cmpGt, cmpGe, cmpIs, cmpNot, cmpIn, rd, rdO, cst, bin, binP, binAdd, binSub, binMul, binDiv, binMod, binAnd, binPow, neg, notE, notT, andT, orT, iteT, tt, vB, vOf, andE, orE, cons', nil', tup', lst', ownL, callF, callP, lenP, absP, maxP, minP, intP, bytesP, octs, rangeP, listP, baP, lenO, bytesO, retO, appL, appB, augI, augO, item, itemP, slc, sliceP, pI, pN, rev, meth, findP, joinP, byts, putT, tN, tT, tNil, tCons, putS, sets, for', iterOf, comp', dkI, dkSet, dkNE, dkPop, dkApp, retDk, intsOf, dget, dNil, dCons, seek, skip, never, St.set, isFresh, lim, V.free, frees, V.isNone, V.isB, inI, inB, lz', lt', uz', ut', nc', nn']
    refine ⟨by trivial, trivial, ?_⟩
    rw [show inner Γ__law_quoted_right_2 [1] ⟨[some .deck, some (.byt special), some (.byt b), none, none], .fresh, some d'⟩ = ⟨[some (.byt special), none], .fresh, some d'⟩ from rfl]
    refine compL_map (fun st => ∃ o, st = ⟨[some (.byt special), o], .fresh, some d'⟩) (fun _ => true) (fun x => match x with | .int i => .byt (q1 false i.toNat.toUInt8) | x => x) _ _ [] _ ?_ (by simp; lia) ⟨_, rfl⟩ ?_
    · rintro y hy st R ⟨o, rfl⟩ hR
      obtain ⟨c, hc, rfl⟩ := List.mem_map.mp hy
      have hR' := hR ⟨[some (.byt special), some (.int c.toNat)], .fresh, some d'⟩ ⟨_, rfl⟩
      simp only [if_true, u8_int] at hR'
      have hc := c.toNat_lt
      simp only [u8_int, seq, put, ret', iff', ite', cmpT, cmp, cmp2T, cmpP, cmpEq, cmpNe, cmpLt, cmpLe, cmpGt, cmpGe, cmpIs, cmpNot, cmpIn, rd, rdO, cst, bin, binP, binAdd, binSub, binMul, binDiv, binMod, binAnd, binPow, neg, notE, notT, andT, orT, iteT, tt, vB, vOf, andE, orE, cons', nil', tup', lst', ownL, callF, callP, lenP, absP, maxP, minP, intP, bytesP, octs, rangeP, listP, baP, lenO, bytesO, retO, appL, appB, augI, augO, item, itemP, slc, sliceP, pI, pN, rev, meth, findP, joinP, byts, putT, tN, tT, tNil, tCons, putS, sets, for', iterOf, comp', dkI, dkSet, dkNE, dkPop, dkApp, retDk, intsOf, dget, dNil, dCons, seek, skip, never, St.set, isFresh, lim, V.free, frees, V.isNone, V.isB, inI, inB, lz', lt', uz', ut', nc', nn']
      refine ⟨⟨by lia, by lia⟩, ?_⟩
      unfold q1 at hR'
      rw [if_neg (by decide)] at hR'
      cases hs : special.contains c with
      | true => rw [hs] at hR'; exact ⟨by decide, by decide, ⟨by lia, by lia⟩, by decide, hR'⟩
      | false => rw [hs] at hR'; exact ⟨by decide, by decide, ⟨by lia, by lia⟩, by decide, hR'⟩
    · rintro st ⟨o, rfl⟩
      simp only [List.nil_append, filter_tt, List.map_map]
      refine ⟨trivial, ?_⟩
      show byts (b.map fun c => .byt (q1 false ((c.toNat : Int).toNat.toUInt8))) _
      simp only [u8_int]
      refine byts_map b (q1 false) _ ⟨by have := sum_le b (q1 false) 2 fun c _ => q1_len _ c; simp only [List.length_nil, Nat.zero_mul, Nat.add_zero]; lia, ?_⟩
      rw [joinL_flat, show (b.map (q1 false)).flatten = quoteP false b from rfl]
      show t__law_quoted_right_3 _ _ _ ⟨[some .deck, some (.byt special), some (.byt b), some (.byt (quoteP false b)), none], .fresh, some d'⟩ _
      unfold t__law_quoted_right_3
      dsimp only [seq, put, ret', iff', ite', cmpT, cmp, cmp2T, cmpP, cmpEq, cmpNe, cmpLt, cmpLe, cmpGt, cmpGe, cmpIs, cmpNot, cmpIn, rd, rdO, cst, bin, binP, binAdd, binSub, binMul, binDiv, binMod, binAnd, binPow, neg, notE, notT, andT, orT, iteT, tt, vB, vOf, andE, orE, cons', nil', tup', lst', ownL, callF, callP, lenP, absP, maxP, minP, intP, bytesP, octs, rangeP, listP, baP, lenO, bytesO, retO, appL, appB, augI, augO, item, itemP, slc, sliceP, pI, pN, rev, meth, findP, joinP, byts, putT, tN, tT, tNil, tCons, putS, sets, for', iterOf, comp', dkI, dkSet, dkNE, dkPop, dkApp, retDk, intsOf, dget, dNil, dCons, seek, skip, never, St.set, isFresh, lim, V.free, frees, V.isNone, V.isB, inI, inB, lz', lt', uz', ut', nc', nn']
      refine ⟨by trivial, trivial, ?_⟩
      rw [show inner Γ__law_quoted_right_3 [] ⟨[some .deck, some (.byt special), some (.byt b), some (.byt (quoteP false b)), none], .fresh, some d'⟩ = ⟨[none], .fresh, some d'⟩ from rfl]
      refine compL_map (fun st => ∃ o, st = ⟨[o], .fresh, some d'⟩) (fun _ => true) (fun x => match x with | .int i => .byt (q1 true i.toNat.toUInt8) | x => x) _ _ [] _ ?_ (by simp; lia) ⟨_, rfl⟩ ?_
      · rintro y hy st R ⟨o, rfl⟩ hR
        obtain ⟨c, hc, rfl⟩ := List.mem_map.mp hy
        have hR' := hR ⟨[some (.int c.toNat)], .fresh, some d'⟩ ⟨_, rfl⟩
        simp only [if_true, u8_int] at hR'
        have hc := c.toNat_lt
        simp only [int35, u8_int, seq, put, ret', iff', ite', cmpT, cmp, cmp2T, cmpP, cmpEq, cmpNe, cmpLt, cmpLe, cmpGt, cmpGe, cmpIs, cmpNot, cmpIn, rd, rdO, cst, bin, binP, binAdd, binSub, binMul, binDiv, binMod, binAnd, binPow, neg, notE, notT, andT, orT, iteT, tt, vB, vOf, andE, orE, cons', nil', tup', lst', ownL, callF, callP, lenP, absP, maxP, minP, intP, bytesP, octs, rangeP, listP, baP, lenO, bytesO, retO, appL, appB, augI, augO, item, itemP, slc, sliceP, pI, pN, rev, meth, findP, joinP, byts, putT, tN, tT, tNil, tCons, putS, sets, for', iterOf, comp', dkI, dkSet, dkNE, dkPop, dkApp, retDk, intsOf, dget, dNil, dCons, seek, skip, never, St.set, isFresh, lim, V.free, frees, V.isNone, V.isB, inI, inB, lz', lt', uz', ut', nc', nn']
        unfold q1 at hR'
        rw [if_pos rfl] at hR'
        refine ⟨by decide, by decide, ⟨by lia, by lia⟩, ?_⟩
        by_cases h35 : c = 35
        · rw [if_pos h35] at hR'
          subst h35
          exact ⟨⟨by decide, by decide, by decide, by decide⟩, hR'⟩
        · rw [if_neg h35] at hR'
          rw [decide_eq_false h35]
          exact ⟨⟨by simp, by decide, by decide, by simp⟩, hR'⟩
      · rintro st ⟨o, rfl⟩
        simp only [List.nil_append, filter_tt, List.map_map]
        refine ⟨trivial, ?_⟩
        show byts (b.map fun c => .byt (q1 true ((c.toNat : Int).toNat.toUInt8))) _
        simp only [u8_int]
        refine byts_map b (q1 true) _ ⟨by have := sum_le b (q1 true) 2 fun c _ => q1_len _ c; simp only [List.length_nil, Nat.zero_mul, Nat.add_zero]; lia, ?_⟩
        rw [joinL_flat, show (b.map (q1 true)).flatten = quoteP true b from rfl]
        show t__law_quoted_right_4 _ _ _ ⟨[some .deck, some (.byt special), some (.byt b), some (.byt (quoteP false b)), some (.byt (quoteP true b))], .fresh, some d'⟩ _
        unfold t__law_quoted_right_4
        dsimp only [seq, put, ret', iff', ite', cmpT, cmp, cmp2T, cmpP, cmpEq, cmpNe, cmpLt, cmpLe, cmpGt, cmpGe, cmpIs, cmpNot, cmpIn, rd, rdO, cst, bin, binP, binAdd, binSub, binMul, binDiv, binMod, binAnd, binPow, neg, notE, notT, andT, orT, iteT, tt, vB, vOf, andE, orE, cons', nil', tup', lst', ownL, callF, callP, lenP, absP, maxP, minP, intP, bytesP, octs, rangeP, listP, baP, lenO, bytesO, retO, appL, appB, augI, augO, item, itemP, slc, sliceP, pI, pN, rev, meth, findP, joinP, byts, putT, tN, tT, tNil, tCons, putS, sets, for', iterOf, comp', dkI, dkSet, dkNE, dkPop, dkApp, retDk, intsOf, dget, dNil, dCons, seek, skip, never, St.set, isFresh, lim, V.free, frees, V.isNone, V.isB, inI, inB, lz', lt', uz', ut', nc', nn']
        refine ⟨by trivial, b, false, rfl, by lia, ?_⟩
        simp only [beq_self_eq_true]
        refine ⟨by trivial, b, true, rfl, by lia, ?_⟩
        simp only [beq_self_eq_true]
        exact ⟨by trivial, h _⟩
end

section
set_option exponentiation.threshold 2000
noncomputable def tShift (s : Int) : Int := s.fdiv 86400 + 719468
noncomputable def tWithin (s : Int) : Int := (tShift s).fmod 146097
noncomputable def tYear0 (s : Int) : Int := (tWithin s - (tWithin s).fdiv 1460 + (tWithin s).fdiv 36524 - (tWithin s).fdiv 146096).fdiv 365
noncomputable def tDay (s : Int) : Int := tWithin s - (365 * tYear0 s + (tYear0 s).fdiv 4 - (tYear0 s).fdiv 100)
noncomputable def tMonth (s : Int) : Int := (5 * tDay s + 2).fdiv 153
noncomputable def tNumber (s : Int) : Int := if tMonth s < 10 then tMonth s + 3 else tMonth s - 9
noncomputable def tYear (s : Int) : Int := tYear0 s + (tShift s).fdiv 146097 * 400 + (if tNumber s ≤ 2 then 1 else 0)
noncomputable def tDom (s : Int) : Int := tDay s - (153 * tMonth s + 2).fdiv 5 + 1
noncomputable def in3 (n : Int) : Prop := 0 ≤ n ∧ n < 100
noncomputable def GoodT (s : Int) : Prop := (0 ≤ tNumber s ∧ tNumber s < 100) ∧ (0 ≤ tDom s ∧ tDom s < 100) ∧ (tYear s).natAbs < 10000 ∧ (0 ≤ (s.fmod 86400).fdiv 3600 ∧ (s.fmod 86400).fdiv 3600 < 100) ∧
  (0 ≤ ((s.fmod 86400).fdiv 60).fmod 60 ∧ ((s.fmod 86400).fdiv 60).fmod 60 < 100) ∧ (0 ≤ (s.fmod 86400).fmod 60 ∧ (s.fmod 86400).fmod 60 < 100)
noncomputable def timeP (s : Int) : List UInt8 := ((((dec (tYear s) ++ [45]) ++ two (tNumber s)) ++ [45]) ++ two (tDom s)) ++ [32] ++ joinL [58] [two ((s.fmod 86400).fdiv 3600), two (((s.fmod 86400).fdiv 60).fmod 60), two ((s.fmod 86400).fmod 60)]
theorem two_len {n : Int} (h0 : 0 ≤ n) (h1 : n < 100) : (two n).length ≤ 10 := by
  obtain ⟨m, rfl⟩ : ∃ m : Nat, n = m := ⟨n.toNat, by lia⟩
  unfold two
  rw [fdiv10, fmod10, List.length_append]
  have := dec_small (n := ((m / 10 : Nat) : Int)) (by lia)
  have := dec_small (n := ((m % 10 : Nat) : Int)) (by lia)
  lia
theorem year_len {n : Int} (h : n.natAbs < 10000) : (dec n).length ≤ 10 := by
  have := digs_len 4 n.natAbs (by lia)
  unfold dec
  split <;> simp <;> lia
noncomputable def Time : Spec := fun ds dk Q => ∃ b : List UInt8, ds = [.byt b] ∧ b.length ≤ 900 ∧ ((numP b = none ∧ Q (.byt []) dk) ∨ ∃ s, numP b = some s ∧ GoodT s ∧ Q (.byt (timeP s)) dk)
theorem fTime {ds dk Q} (h : Time ds dk Q) : entry Γ_format_time 1 (sem_format_time Num Dec Two) ds dk Q := by
  obtain ⟨b, rfl, hb, h⟩ := h
  refine ⟨rfl, ?_⟩
  rw [show start Γ_format_time [.byt b] dk = ⟨[some (.byt b), none, none, none, none, none, none, none, none, none, none, none], .fresh, dk⟩ from rfl]
  show t_format_time_0 _ _ _ _ _
  unfold t_format_time_0
  dsimp only [seq, put, ret', iff', ite', cmpT, cmp, cmp2T, cmpP, cmpEq, cmpNe, cmpLt, cmpLe, cmpGt, cmpGe, cmpIs, cmpNot, cmpIn, rd, rdO, cst, bin, binP, binAdd, binSub, binMul, binDiv, binMod, binAnd, binPow, neg, notE, notT, andT, orT, iteT, tt, vB, vOf, andE, orE, cons', nil', tup', lst', ownL, callF, callP, lenP, absP, maxP, minP, intP, bytesP, octs, rangeP, listP, baP, lenO, bytesO, retO, appL, appB, augI, augO, item, itemP, slc, sliceP, pI, pN, rev, meth, findP, joinP, byts, putT, tN, tT, tNil, tCons, putS, sets, for', iterOf, comp', dkI, dkSet, dkNE, dkPop, dkApp, retDk, intsOf, dget, dNil, dCons, seek, skip, never, St.set, isFresh, lim, V.free, frees, V.isNone, V.isB, inI, inB, lz', lt', uz', ut', nc', nn']
  refine ⟨by trivial, b, rfl, hb, ?_⟩
  rcases h with ⟨hp, h⟩ | ⟨s, hp, ⟨⟨g1, g2⟩, ⟨g3, g4⟩, g5, ⟨g6, g7⟩, ⟨g8, g9⟩, ⟨g10, g11⟩⟩, h⟩
  · rw [hp]; exact ⟨by trivial, h⟩
  · rw [hp]
    have n1 := two_len g1 g2
    have n2 := two_len g3 g4
    have n3 := year_len g5
    have n4 := two_len g6 g7
    have n5 := two_len g8 g9
    have n6 := two_len g10 g11
    unfold t_format_time_1
    dsimp only [optI, seq, put, ret', iff', ite', cmpT, cmp, cmp2T, cmpP, cmpEq, cmpNe, cmpLt, cmpLe, cmpGt, cmpGe, cmpIs, cmpNot, cmpIn, rd, rdO, cst, bin, binP, binAdd, binSub, binMul, binDiv, binMod, binAnd, binPow, neg, notE, notT, andT, orT, iteT, tt, vB, vOf, andE, orE, cons', nil', tup', lst', ownL, callF, callP, lenP, absP, maxP, minP, intP, bytesP, octs, rangeP, listP, baP, lenO, bytesO, retO, appL, appB, augI, augO, item, itemP, slc, sliceP, pI, pN, rev, meth, findP, joinP, byts, putT, tN, tT, tNil, tCons, putS, sets, for', iterOf, comp', dkI, dkSet, dkNE, dkPop, dkApp, retDk, intsOf, dget, dNil, dCons, seek, skip, never, St.set, isFresh, lim, V.free, frees, V.isNone, V.isB, inI, inB, lz', lt', uz', ut', nc', nn']
    unfold t_format_time_2
    dsimp only [List.reverse_cons, List.reverse_nil, List.nil_append, List.cons_append, seq, put, ret', iff', ite', cmpT, cmp, cmp2T, cmpP, cmpEq, cmpNe, cmpLt, cmpLe, cmpGt, cmpGe, cmpIs, cmpNot, cmpIn, rd, rdO, cst, bin, binP, binAdd, binSub, binMul, binDiv, binMod, binAnd, binPow, neg, notE, notT, andT, orT, iteT, tt, vB, vOf, andE, orE, cons', nil', tup', lst', ownL, callF, callP, lenP, absP, maxP, minP, intP, bytesP, octs, rangeP, listP, baP, lenO, bytesO, retO, appL, appB, augI, augO, item, itemP, slc, sliceP, pI, pN, rev, meth, findP, joinP, byts, putT, tN, tT, tNil, tCons, putS, sets, for', iterOf, comp', dkI, dkSet, dkNE, dkPop, dkApp, retDk, intsOf, dget, dNil, dCons, seek, skip, never, St.set, isFresh, lim, V.free, frees, V.isNone, V.isB, inI, inB, lz', lt', uz', ut', nc', nn']
    refine ⟨by decide, by decide, by decide, by decide, by trivial, ?_⟩
    show t_format_time_3 _ _ _ ⟨[some (.byt b), some (.int s), some (.int (s.fdiv 86400)), some (.int (s.fmod 86400)), none, none, none, none, none, none, none, none], .fresh, dk⟩ _
    unfold t_format_time_3
    dsimp only [seq, put, ret', iff', ite', cmpT, cmp, cmp2T, cmpP, cmpEq, cmpNe, cmpLt, cmpLe, cmpGt, cmpGe, cmpIs, cmpNot, cmpIn, rd, rdO, cst, bin, binP, binAdd, binSub, binMul, binDiv, binMod, binAnd, binPow, neg, notE, notT, andT, orT, iteT, tt, vB, vOf, andE, orE, cons', nil', tup', lst', ownL, callF, callP, lenP, absP, maxP, minP, intP, bytesP, octs, rangeP, listP, baP, lenO, bytesO, retO, appL, appB, augI, augO, item, itemP, slc, sliceP, pI, pN, rev, meth, findP, joinP, byts, putT, tN, tT, tNil, tCons, putS, sets, for', iterOf, comp', dkI, dkSet, dkNE, dkPop, dkApp, retDk, intsOf, dget, dNil, dCons, seek, skip, never, St.set, isFresh, lim, V.free, frees, V.isNone, V.isB, inI, inB, lz', lt', uz', ut', nc', nn']
    rw [show s.fdiv 86400 + 719468 = tShift s from rfl]
    unfold t_format_time_4
    dsimp only [seq, put, ret', iff', ite', cmpT, cmp, cmp2T, cmpP, cmpEq, cmpNe, cmpLt, cmpLe, cmpGt, cmpGe, cmpIs, cmpNot, cmpIn, rd, rdO, cst, bin, binP, binAdd, binSub, binMul, binDiv, binMod, binAnd, binPow, neg, notE, notT, andT, orT, iteT, tt, vB, vOf, andE, orE, cons', nil', tup', lst', ownL, callF, callP, lenP, absP, maxP, minP, intP, bytesP, octs, rangeP, listP, baP, lenO, bytesO, retO, appL, appB, augI, augO, item, itemP, slc, sliceP, pI, pN, rev, meth, findP, joinP, byts, putT, tN, tT, tNil, tCons, putS, sets, for', iterOf, comp', dkI, dkSet, dkNE, dkPop, dkApp, retDk, intsOf, dget, dNil, dCons, seek, skip, never, St.set, isFresh, lim, V.free, frees, V.isNone, V.isB, inI, inB, lz', lt', uz', ut', nc', nn']
    refine ⟨by decide, ?_⟩
    rw [show (tShift s).fmod 146097 = tWithin s from rfl]
    unfold t_format_time_5
    dsimp only [seq, put, ret', iff', ite', cmpT, cmp, cmp2T, cmpP, cmpEq, cmpNe, cmpLt, cmpLe, cmpGt, cmpGe, cmpIs, cmpNot, cmpIn, rd, rdO, cst, bin, binP, binAdd, binSub, binMul, binDiv, binMod, binAnd, binPow, neg, notE, notT, andT, orT, iteT, tt, vB, vOf, andE, orE, cons', nil', tup', lst', ownL, callF, callP, lenP, absP, maxP, minP, intP, bytesP, octs, rangeP, listP, baP, lenO, bytesO, retO, appL, appB, augI, augO, item, itemP, slc, sliceP, pI, pN, rev, meth, findP, joinP, byts, putT, tN, tT, tNil, tCons, putS, sets, for', iterOf, comp', dkI, dkSet, dkNE, dkPop, dkApp, retDk, intsOf, dget, dNil, dCons, seek, skip, never, St.set, isFresh, lim, V.free, frees, V.isNone, V.isB, inI, inB, lz', lt', uz', ut', nc', nn']
    refine ⟨by decide, by decide, by decide, by decide, by decide, by decide, by decide, by decide, ?_⟩
    rw [show (tWithin s - (tWithin s).fdiv 1460 + (tWithin s).fdiv 36524 - (tWithin s).fdiv 146096).fdiv 365 = tYear0 s from rfl]
    unfold t_format_time_6
    dsimp only [seq, put, ret', iff', ite', cmpT, cmp, cmp2T, cmpP, cmpEq, cmpNe, cmpLt, cmpLe, cmpGt, cmpGe, cmpIs, cmpNot, cmpIn, rd, rdO, cst, bin, binP, binAdd, binSub, binMul, binDiv, binMod, binAnd, binPow, neg, notE, notT, andT, orT, iteT, tt, vB, vOf, andE, orE, cons', nil', tup', lst', ownL, callF, callP, lenP, absP, maxP, minP, intP, bytesP, octs, rangeP, listP, baP, lenO, bytesO, retO, appL, appB, augI, augO, item, itemP, slc, sliceP, pI, pN, rev, meth, findP, joinP, byts, putT, tN, tT, tNil, tCons, putS, sets, for', iterOf, comp', dkI, dkSet, dkNE, dkPop, dkApp, retDk, intsOf, dget, dNil, dCons, seek, skip, never, St.set, isFresh, lim, V.free, frees, V.isNone, V.isB, inI, inB, lz', lt', uz', ut', nc', nn']
    refine ⟨.inl (by decide), by decide, by decide, by decide, by decide, ?_⟩
    rw [show tWithin s - (365 * tYear0 s + (tYear0 s).fdiv 4 - (tYear0 s).fdiv 100) = tDay s from rfl]
    unfold t_format_time_7
    dsimp only [seq, put, ret', iff', ite', cmpT, cmp, cmp2T, cmpP, cmpEq, cmpNe, cmpLt, cmpLe, cmpGt, cmpGe, cmpIs, cmpNot, cmpIn, rd, rdO, cst, bin, binP, binAdd, binSub, binMul, binDiv, binMod, binAnd, binPow, neg, notE, notT, andT, orT, iteT, tt, vB, vOf, andE, orE, cons', nil', tup', lst', ownL, callF, callP, lenP, absP, maxP, minP, intP, bytesP, octs, rangeP, listP, baP, lenO, bytesO, retO, appL, appB, augI, augO, item, itemP, slc, sliceP, pI, pN, rev, meth, findP, joinP, byts, putT, tN, tT, tNil, tCons, putS, sets, for', iterOf, comp', dkI, dkSet, dkNE, dkPop, dkApp, retDk, intsOf, dget, dNil, dCons, seek, skip, never, St.set, isFresh, lim, V.free, frees, V.isNone, V.isB, inI, inB, lz', lt', uz', ut', nc', nn']
    refine ⟨.inl (by decide), by decide, by decide, ?_⟩
    rw [show (5 * tDay s + 2).fdiv 153 = tMonth s from rfl]
    have k9 : ∀ fin, t_format_time_9 Num Dec Two ⟨[some (.byt b), some (.int s), some (.int (s.fdiv 86400)), some (.int (s.fmod 86400)), some (.int (tShift s)), some (.int (tWithin s)), some (.int (tYear0 s)), some (.int (tDay s)), some (.int (tMonth s)), some (.int (tNumber s)), none, none], .fresh, dk⟩ fin →
        t_format_time_8 Num Dec Two ⟨[some (.byt b), some (.int s), some (.int (s.fdiv 86400)), some (.int (s.fmod 86400)), some (.int (tShift s)), some (.int (tWithin s)), some (.int (tYear0 s)), some (.int (tDay s)), some (.int (tMonth s)), none, none, none], .fresh, dk⟩ fin := by
      intro fin hk
      unfold t_format_time_8
      dsimp only [seq, put, ret', iff', ite', cmpT, cmp, cmp2T, cmpP, cmpEq, cmpNe, cmpLt, cmpLe, cmpGt, cmpGe, cmpIs, cmpNot, cmpIn, rd, rdO, cst, bin, binP, binAdd, binSub, binMul, binDiv, binMod, binAnd, binPow, neg, notE, notT, andT, orT, iteT, tt, vB, vOf, andE, orE, cons', nil', tup', lst', ownL, callF, callP, lenP, absP, maxP, minP, intP, bytesP, octs, rangeP, listP, baP, lenO, bytesO, retO, appL, appB, augI, augO, item, itemP, slc, sliceP, pI, pN, rev, meth, findP, joinP, byts, putT, tN, tT, tNil, tCons, putS, sets, for', iterOf, comp', dkI, dkSet, dkNE, dkPop, dkApp, retDk, intsOf, dget, dNil, dCons, seek, skip, never, St.set, isFresh, lim, V.free, frees, V.isNone, V.isB, inI, inB, lz', lt', uz', ut', nc', nn']
      by_cases hm : tMonth s < 10
      · rw [show tNumber s = tMonth s + 3 from if_pos hm] at hk
        simp only [hm, decide_true]; exact hk
      · rw [show tNumber s = tMonth s - 9 from if_neg hm] at hk
        simp only [hm, decide_false]; exact hk
    refine k9 _ ?_
    unfold t_format_time_9
    dsimp only [seq, put, ret', iff', ite', cmpT, cmp, cmp2T, cmpP, cmpEq, cmpNe, cmpLt, cmpLe, cmpGt, cmpGe, cmpIs, cmpNot, cmpIn, rd, rdO, cst, bin, binP, binAdd, binSub, binMul, binDiv, binMod, binAnd, binPow, neg, notE, notT, andT, orT, iteT, tt, vB, vOf, andE, orE, cons', nil', tup', lst', ownL, callF, callP, lenP, absP, maxP, minP, intP, bytesP, octs, rangeP, listP, baP, lenO, bytesO, retO, appL, appB, augI, augO, item, itemP, slc, sliceP, pI, pN, rev, meth, findP, joinP, byts, putT, tN, tT, tNil, tCons, putS, sets, for', iterOf, comp', dkI, dkSet, dkNE, dkPop, dkApp, retDk, intsOf, dget, dNil, dCons, seek, skip, never, St.set, isFresh, lim, V.free, frees, V.isNone, V.isB, inI, inB, lz', lt', uz', ut', nc', nn']
    refine ⟨by decide, by decide, .inr (by decide), ?_⟩
    have k10 : ∀ fin, t_format_time_10 Num Dec Two ⟨[some (.byt b), some (.int s), some (.int (s.fdiv 86400)), some (.int (s.fmod 86400)), some (.int (tShift s)), some (.int (tWithin s)), some (.int (tYear s)), some (.int (tDay s)), some (.int (tMonth s)), some (.int (tNumber s)), none, none], .fresh, dk⟩ fin →
        (match decide (tNumber s ≤ 2) with
          | true => t_format_time_10 Num Dec Two ⟨[some (.byt b), some (.int s), some (.int (s.fdiv 86400)), some (.int (s.fmod 86400)), some (.int (tShift s)), some (.int (tWithin s)), some (.int (tYear0 s + (tShift s).fdiv 146097 * 400 + 1)), some (.int (tDay s)), some (.int (tMonth s)), some (.int (tNumber s)), none, none], .fresh, dk⟩ fin
          | false => t_format_time_10 Num Dec Two ⟨[some (.byt b), some (.int s), some (.int (s.fdiv 86400)), some (.int (s.fmod 86400)), some (.int (tShift s)), some (.int (tWithin s)), some (.int (tYear0 s + (tShift s).fdiv 146097 * 400 + 0)), some (.int (tDay s)), some (.int (tMonth s)), some (.int (tNumber s)), none, none], .fresh, dk⟩ fin) := by
      intro fin hk
      unfold tYear at hk
      by_cases hm : tNumber s ≤ 2
      · rw [if_pos hm] at hk; simp only [hm, decide_true]; exact hk
      · rw [if_neg hm] at hk; simp only [hm, decide_false]; exact hk
    refine k10 _ ?_
    unfold t_format_time_10
    dsimp only [seq, put, ret', iff', ite', cmpT, cmp, cmp2T, cmpP, cmpEq, cmpNe, cmpLt, cmpLe, cmpGt, cmpGe, cmpIs, cmpNot, cmpIn, rd, rdO, cst, bin, binP, binAdd, binSub, binMul, binDiv, binMod, binAnd, binPow, neg, notE, notT, andT, orT, iteT, tt, vB, vOf, andE, orE, cons', nil', tup', lst', ownL, callF, callP, lenP, absP, maxP, minP, intP, bytesP, octs, rangeP, listP, baP, lenO, bytesO, retO, appL, appB, augI, augO, item, itemP, slc, sliceP, pI, pN, rev, meth, findP, joinP, byts, putT, tN, tT, tNil, tCons, putS, sets, for', iterOf, comp', dkI, dkSet, dkNE, dkPop, dkApp, retDk, intsOf, dget, dNil, dCons, seek, skip, never, St.set, isFresh, lim, V.free, frees, V.isNone, V.isB, inI, inB, lz', lt', uz', ut', nc', nn']
    refine ⟨by trivial, _, rfl, big 10000 g5, by simp; lia, by trivial, _, rfl, g1, by lia, by simp; lia, by simp; lia, .inl (by decide), by decide, by decide, by trivial, tDom s, rfl, g3, by lia, by simp; lia, ?_⟩
    unfold t_format_time_11
    dsimp only [seq, put, ret', iff', ite', cmpT, cmp, cmp2T, cmpP, cmpEq, cmpNe, cmpLt, cmpLe, cmpGt, cmpGe, cmpIs, cmpNot, cmpIn, rd, rdO, cst, bin, binP, binAdd, binSub, binMul, binDiv, binMod, binAnd, binPow, neg, notE, notT, andT, orT, iteT, tt, vB, vOf, andE, orE, cons', nil', tup', lst', ownL, callF, callP, lenP, absP, maxP, minP, intP, bytesP, octs, rangeP, listP, baP, lenO, bytesO, retO, appL, appB, augI, augO, item, itemP, slc, sliceP, pI, pN, rev, meth, findP, joinP, byts, putT, tN, tT, tNil, tCons, putS, sets, for', iterOf, comp', dkI, dkSet, dkNE, dkPop, dkApp, retDk, intsOf, dget, dNil, dCons, seek, skip, never, St.set, isFresh, lim, V.free, frees, V.isNone, V.isB, inI, inB, lz', lt', uz', ut', nc', nn']
    refine ⟨by decide, by decide, by trivial, _, rfl, g6, by lia, by decide, by decide, by decide, by trivial, _, rfl, g8, by lia, by decide, by trivial, _, rfl, g10, by lia, by decide, ?_⟩
    unfold t_format_time_12
    dsimp only [seq, put, ret', iff', ite', cmpT, cmp, cmp2T, cmpP, cmpEq, cmpNe, cmpLt, cmpLe, cmpGt, cmpGe, cmpIs, cmpNot, cmpIn, rd, rdO, cst, bin, binP, binAdd, binSub, binMul, binDiv, binMod, binAnd, binPow, neg, notE, notT, andT, orT, iteT, tt, vB, vOf, andE, orE, cons', nil', tup', lst', ownL, callF, callP, lenP, absP, maxP, minP, intP, bytesP, octs, rangeP, listP, baP, lenO, bytesO, retO, appL, appB, augI, augO, item, itemP, slc, sliceP, pI, pN, rev, meth, findP, joinP, byts, putT, tN, tT, tNil, tCons, putS, sets, for', iterOf, comp', dkI, dkSet, dkNE, dkPop, dkApp, retDk, intsOf, dget, dNil, dCons, seek, skip, never, St.set, isFresh, lim, V.free, frees, V.isNone, V.isB, inI, inB, lz', lt', uz', ut', nc', nn']
    refine ⟨by simp only [List.length_append, List.map_cons, List.map_nil, List.sum_cons, List.sum_nil, List.length_cons, List.length_nil, joinL, List.flatten_cons, List.flatten_nil]; lia, trivial, by simp only [List.length_append, List.map_cons, List.map_nil, List.sum_cons, List.sum_nil, List.length_cons, List.length_nil, joinL, List.flatten_cons, List.flatten_nil]; lia, ?_, by trivial, h⟩
    simp only [List.length_append, List.map_cons, List.map_nil, List.sum_cons, List.sum_nil, List.length_cons, List.length_nil, joinL, List.flatten_cons, List.flatten_nil]; lia
end

section
set_option exponentiation.threshold 2000
noncomputable def lp (y : Int) : Int := if longP y then 1 else 0
noncomputable def yearsP : Nat → Int → Int → Option (Int × Int)
  | 0, _, _ => none
  | k + 1, d, y => if d ≥ 365 + lp y then yearsP k (d - 365 - lp y) (y + 1) else some (d, y)
noncomputable def sizesP (y : Int) : List Int := [31, if longP y then 29 else 28, 31, 30, 31, 30, 31, 31, 30, 31, 30, 31]
noncomputable def monthsP : Nat → List Int → Int → Nat → Option (Int × Nat)
  | 0, _, _, _ => none
  | k + 1, sz, d, m => match sz[m]? with
    | some z => if d ≥ z then monthsP k sz (d - z) (m + 1) else some (d, m)
    | none => none
noncomputable def menu8 : List Int := [0, 59, 86399, 86400, 951782399, 951782400, 1709251199, 4102444800]
noncomputable def goodDec (s : Int) : Decidable (GoodT s) := by unfold GoodT; infer_instance
noncomputable def chk (s : Int) : Bool := match yearsP 200 (s.fdiv 86400) 1970 with
  | some (d, y) => match monthsP 13 (sizesP y) d 0 with
    | some (d', m) => letI := goodDec s; decide (0 ≤ s ∧ s < 10000000000 ∧ y = tYear s ∧ (m : Int) + 1 = tNumber s ∧ d' + 1 = tDom s ∧ GoodT s)
    | none => false
  | none => false
theorem chk_all : (menu8.all fun a => [0, 1, 2].all fun r => chk (a + r * 86399)) = true := by decide +kernel

theorem dec_two {n : Int} (h0 : 0 ≤ n) (h1 : n < 100) : cut (dec (100 + n)) (some 1) none = two n := by
  obtain ⟨m, rfl⟩ : ∃ m : Nat, n = m := ⟨n.toNat, by lia⟩
  rw [show (1 : Int) = ((1 : Nat) : Int) from rfl, cut_from]
  unfold two
  rw [fdiv10, fmod10]
  unfold dec
  rw [if_neg (by lia), if_neg (by lia), if_neg (by lia)]
  rw [show ((100 : Int) + (m : Int)).natAbs = 100 + m by lia, show (((m / 10 : Nat) : Int)).natAbs = m / 10 by lia, show (((m % 10 : Nat) : Int)).natAbs = m % 10 by lia]
  rw [digs_ge (by lia), show (100 + m) / 10 = 10 + m / 10 by lia, digs_ge (by lia), show (10 + m / 10) / 10 = 1 by lia, digs_lt (by decide), digs_lt (by lia), digs_lt (by lia)]
  rw [show (100 + m) % 10 = m % 10 % 10 by lia, show (10 + m / 10) % 10 = m / 10 % 10 by lia]
  rfl

section
variable (φ1 φ2 φ4 φ5 : Spec)
theorem loop_years (x0 x1 x3 x5 x6 x7 x8 : Option V) (dk : Option Deck) (Q : Fl → St → Prop) (d' y' : Int) : ∀ (k : Nat) (d y : Int), yearsP k d y = some (d', y') →
    Q .next ⟨[x0, x1, some (.int d'), x3, some (.int y'), x5, x6, x7, x8], .fresh, dk⟩ →
    whileN (cmpT .GtE (rd 2) (bin .Add (cst (.int 365)) (callP intP (cons' (callF Long (cons' (rd 4) nil')) nil')))) (b__law_time_right_1 φ1 φ2 Long φ4 φ5) k ⟨[x0, x1, some (.int d), x3, some (.int y), x5, x6, x7, x8], .fresh, dk⟩ Q := by
  intro k
  induction k with
  | zero => intro d y h; cases h
  | succ k ih =>
    intro d y h hQ
    unfold yearsP at h
    unfold whileN
    dsimp only [seq, put, ret', iff', ite', cmpT, cmp, cmp2T, cmpP, cmpEq, cmpNe, cmpLt, cmpLe, cmpGt, cmpGe, cmpIs, cmpNot, cmpIn, rd, rdO, cst, bin, binP, binAdd, binSub, binMul, binDiv, binMod, binAnd, binPow, neg, notE, notT, andT, orT, iteT, tt, vB, vOf, andE, orE, cons', nil', tup', lst', ownL, callF, callP, lenP, absP, maxP, minP, intP, bytesP, octs, rangeP, listP, baP, lenO, bytesO, retO, appL, appB, augI, augO, item, itemP, slc, sliceP, pI, pN, rev, meth, findP, joinP, byts, putT, tN, tT, tNil, tCons, putS, sets, for', iterOf, comp', dkI, dkSet, dkNE, dkPop, dkApp, retDk, intsOf, dget, dNil, dCons, seek, skip, never, St.set, isFresh, lim, V.free, frees, V.isNone, V.isB, inI, inB, lz', lt', uz', ut', nc', nn']
    refine ⟨by trivial, y, rfl, ?_⟩
    dsimp only [seq, put, ret', iff', ite', cmpT, cmp, cmp2T, cmpP, cmpEq, cmpNe, cmpLt, cmpLe, cmpGt, cmpGe, cmpIs, cmpNot, cmpIn, rd, rdO, cst, bin, binP, binAdd, binSub, binMul, binDiv, binMod, binAnd, binPow, neg, notE, notT, andT, orT, iteT, tt, vB, vOf, andE, orE, cons', nil', tup', lst', ownL, callF, callP, lenP, absP, maxP, minP, intP, bytesP, octs, rangeP, listP, baP, lenO, bytesO, retO, appL, appB, augI, augO, item, itemP, slc, sliceP, pI, pN, rev, meth, findP, joinP, byts, putT, tN, tT, tNil, tCons, putS, sets, for', iterOf, comp', dkI, dkSet, dkNE, dkPop, dkApp, retDk, intsOf, dget, dNil, dCons, seek, skip, never, St.set, isFresh, lim, V.free, frees, V.isNone, V.isB, inI, inB, lz', lt', uz', ut', nc', nn']
    rw [show (if longP y then (1 : Int) else 0) = lp y from rfl]
    by_cases hd : d ≥ 365 + lp y
    · rw [if_pos hd] at h
      simp only [hd, decide_true]
      unfold b__law_time_right_1
      dsimp only [List.reverse_cons, List.reverse_nil, List.nil_append, List.cons_append, seq, put, ret', iff', ite', cmpT, cmp, cmp2T, cmpP, cmpEq, cmpNe, cmpLt, cmpLe, cmpGt, cmpGe, cmpIs, cmpNot, cmpIn, rd, rdO, cst, bin, binP, binAdd, binSub, binMul, binDiv, binMod, binAnd, binPow, neg, notE, notT, andT, orT, iteT, tt, vB, vOf, andE, orE, cons', nil', tup', lst', ownL, callF, callP, lenP, absP, maxP, minP, intP, bytesP, octs, rangeP, listP, baP, lenO, bytesO, retO, appL, appB, augI, augO, item, itemP, slc, sliceP, pI, pN, rev, meth, findP, joinP, byts, putT, tN, tT, tNil, tCons, putS, sets, for', iterOf, comp', dkI, dkSet, dkNE, dkPop, dkApp, retDk, intsOf, dget, dNil, dCons, seek, skip, never, St.set, isFresh, lim, V.free, frees, V.isNone, V.isB, inI, inB, lz', lt', uz', ut', nc', nn']
      refine ⟨by trivial, y, rfl, by decide, by trivial, ?_⟩
      exact ih _ _ h hQ
    · rw [if_neg hd] at h
      cases h
      simp only [hd, decide_false]
      exact hQ
theorem loop_months (x0 x1 x3 x4 x7 x8 : Option V) (dk : Option Deck) (Q : Fl → St → Prop) (sz : List Int) (hz : sz.length < 100) (d' : Int) (m' : Nat) : ∀ (k : Nat) (d : Int) (m : Nat), monthsP k sz d m = some (d', m') →
    Q .next ⟨[x0, x1, some (.int d'), x3, x4, some (.int m'), some (.lst (sz.map V.int)), x7, x8], .fresh, dk⟩ →
    whileN (cmpT .GtE (rd 2) (item (rd 6) (rd 5))) (b__law_time_right_2 φ1 φ2 Long φ4 φ5) k ⟨[x0, x1, some (.int d), x3, x4, some (.int m), some (.lst (sz.map V.int)), x7, x8], .fresh, dk⟩ Q := by
  intro k
  induction k with
  | zero => intro d m h; cases h
  | succ k ih =>
    intro d m h hQ
    unfold monthsP at h
    unfold whileN
    dsimp only [seq, put, ret', iff', ite', cmpT, cmp, cmp2T, cmpP, cmpEq, cmpNe, cmpLt, cmpLe, cmpGt, cmpGe, cmpIs, cmpNot, cmpIn, rd, rdO, cst, bin, binP, binAdd, binSub, binMul, binDiv, binMod, binAnd, binPow, neg, notE, notT, andT, orT, iteT, tt, vB, vOf, andE, orE, cons', nil', tup', lst', ownL, callF, callP, lenP, absP, maxP, minP, intP, bytesP, octs, rangeP, listP, baP, lenO, bytesO, retO, appL, appB, augI, augO, item, itemP, slc, sliceP, pI, pN, rev, meth, findP, joinP, byts, putT, tN, tT, tNil, tCons, putS, sets, for', iterOf, comp', dkI, dkSet, dkNE, dkPop, dkApp, retDk, intsOf, dget, dNil, dCons, seek, skip, never, St.set, isFresh, lim, V.free, frees, V.isNone, V.isB, inI, inB, lz', lt', uz', ut', nc', nn']
    cases hm : sz[m]? with
    | none => rw [hm] at h; cases h
    | some z =>
      rw [hm] at h
      dsimp only at h
      have hlt := (List.getElem?_eq_some_iff.mp hm).1
      refine ⟨⟨by lia, by lia⟩, ?_⟩
      rw [Int.toNat_natCast, List.getElem?_map, hm]
      dsimp only [Option.map_some]
      by_cases hd : d ≥ z
      · rw [if_pos hd] at h
        simp only [hd, decide_true]
        unfold b__law_time_right_2
        dsimp only [List.reverse_cons, List.reverse_nil, List.nil_append, List.cons_append, seq, put, ret', iff', ite', cmpT, cmp, cmp2T, cmpP, cmpEq, cmpNe, cmpLt, cmpLe, cmpGt, cmpGe, cmpIs, cmpNot, cmpIn, rd, rdO, cst, bin, binP, binAdd, binSub, binMul, binDiv, binMod, binAnd, binPow, neg, notE, notT, andT, orT, iteT, tt, vB, vOf, andE, orE, cons', nil', tup', lst', ownL, callF, callP, lenP, absP, maxP, minP, intP, bytesP, octs, rangeP, listP, baP, lenO, bytesO, retO, appL, appB, augI, augO, item, itemP, slc, sliceP, pI, pN, rev, meth, findP, joinP, byts, putT, tN, tT, tNil, tCons, putS, sets, for', iterOf, comp', dkI, dkSet, dkNE, dkPop, dkApp, retDk, intsOf, dget, dNil, dCons, seek, skip, never, St.set, isFresh, lim, V.free, frees, V.isNone, V.isB, inI, inB, lz', lt', uz', ut', nc', nn']
        refine ⟨⟨by lia, by lia⟩, ?_⟩
        rw [Int.toNat_natCast, List.getElem?_map, hm]
        dsimp only [Option.map_some]
        refine ⟨by decide, by trivial, ?_⟩
        exact ih _ (m + 1) h hQ
      · rw [if_neg hd] at h
        cases h
        simp only [hd, decide_false]
        exact hQ
end
theorem fTimeRight {t : Int} {ds dk Q} (h : Right t ds dk Q) : entry Γ__law_time_right 1 (sem__law_time_right (Pick (t + 10)) (Draw (t + 10)) Long Dec Time) ds dk Q := by
  obtain ⟨d, rfl, rfl, hd, h⟩ := h
  refine ⟨rfl, ?_⟩
  rw [show start Γ__law_time_right [.deck] (some d) = ⟨[some .deck, none, none, none, none, none, none, none, none], .fresh, some d⟩ from rfl]
  have hdt := hd.hi
  show t__law_time_right_0 _ _ _ _ _ _ _
  unfold t__law_time_right_0
  dsimp only [seq, put, ret', iff', ite', cmpT, cmp, cmp2T, cmpP, cmpEq, cmpNe, cmpLt, cmpLe, cmpGt, cmpGe, cmpIs, cmpNot, cmpIn, rd, rdO, cst, bin, binP, binAdd, binSub, binMul, binDiv, binMod, binAnd, binPow, neg, notE, notT, andT, orT, iteT, tt, vB, vOf, andE, orE, cons', nil', tup', lst', ownL, callF, callP, lenP, absP, maxP, minP, intP, bytesP, octs, rangeP, listP, baP, lenO, bytesO, retO, appL, appB, augI, augO, item, itemP, slc, sliceP, pI, pN, rev, meth, findP, joinP, byts, putT, tN, tT, tNil, tCons, putS, sets, for', iterOf, comp', dkI, dkSet, dkNE, dkPop, dkApp, retDk, intsOf, dget, dNil, dCons, seek, skip, never, St.set, isFresh, lim, V.free, frees, V.isNone, V.isB, inI, inB, lz', lt', uz', ut', nc', nn']
  refine ⟨by decide, by trivial, _, d, rfl, by simp, by simp, by simp [V.free], rfl, hd.mono (by lia), fun x hx d₁ hd₁ ht₁ => ?_⟩
  refine ⟨by trivial, 3, d₁, rfl, by decide, by decide, rfl, hd₁.mono (by lia), fun r d₂ h0 h1 hd₂ ht₂ => ?_⟩
  obtain ⟨a, rfl, ha⟩ : ∃ a, x = .int a ∧ a ∈ menu8 := by
    simp only [List.mem_cons, List.not_mem_nil, or_false] at hx
    rcases hx with rfl | rfl | rfl | rfl | rfl | rfl | rfl | rfl <;> exact ⟨_, rfl, by decide⟩
  have hc : chk (a + r * 86399) = true := by
    have := List.all_eq_true.mp (List.all_eq_true.mp chk_all a ha) r (by
      have : r = 0 ∨ r = 1 ∨ r = 2 := by lia
      rcases this with rfl | rfl | rfl <;> decide)
    exact this
  dsimp only
  refine ⟨.inr (by decide), ?_⟩
  have hd₂' := hd₂.hi
  generalize a + r * 86399 = s at hc ⊢
  unfold chk at hc
  cases hy : yearsP 200 (s.fdiv 86400) 1970 with
  | none => rw [hy] at hc; cases hc
  | some p =>
    obtain ⟨d1, y⟩ := p
    rw [hy] at hc
    dsimp only at hc
    cases hm : monthsP 13 (sizesP y) d1 0 with
    | none => rw [hm] at hc; cases hc
    | some p =>
      obtain ⟨d2, m⟩ := p
      rw [hm] at hc
      letI := goodDec s
      obtain ⟨c1, c2, c3, c4, c5, c6⟩ := of_decide_eq_true hc
      unfold t__law_time_right_1
      dsimp only [seq, put, ret', iff', ite', cmpT, cmp, cmp2T, cmpP, cmpEq, cmpNe, cmpLt, cmpLe, cmpGt, cmpGe, cmpIs, cmpNot, cmpIn, rd, rdO, cst, bin, binP, binAdd, binSub, binMul, binDiv, binMod, binAnd, binPow, neg, notE, notT, andT, orT, iteT, tt, vB, vOf, andE, orE, cons', nil', tup', lst', ownL, callF, callP, lenP, absP, maxP, minP, intP, bytesP, octs, rangeP, listP, baP, lenO, bytesO, retO, appL, appB, augI, augO, item, itemP, slc, sliceP, pI, pN, rev, meth, findP, joinP, byts, putT, tN, tT, tNil, tCons, putS, sets, for', iterOf, comp', dkI, dkSet, dkNE, dkPop, dkApp, retDk, intsOf, dget, dNil, dCons, seek, skip, never, St.set, isFresh, lim, V.free, frees, V.isNone, V.isB, inI, inB, lz', lt', uz', ut', nc', nn']
      refine ⟨by decide, by decide, by decide, by decide, by trivial, ?_⟩
      unfold t__law_time_right_2 w__law_time_right_1
      dsimp only [seq, while']
      refine ⟨200, loop_years _ _ _ _ _ _ _ _ _ _ _ _ _ d1 y 200 _ _ hy ?_⟩
      dsimp only
      unfold t__law_time_right_3
      dsimp only [seq, put, ret', iff', ite', cmpT, cmp, cmp2T, cmpP, cmpEq, cmpNe, cmpLt, cmpLe, cmpGt, cmpGe, cmpIs, cmpNot, cmpIn, rd, rdO, cst, bin, binP, binAdd, binSub, binMul, binDiv, binMod, binAnd, binPow, neg, notE, notT, andT, orT, iteT, tt, vB, vOf, andE, orE, cons', nil', tup', lst', ownL, callF, callP, lenP, absP, maxP, minP, intP, bytesP, octs, rangeP, listP, baP, lenO, bytesO, retO, appL, appB, augI, augO, item, itemP, slc, sliceP, pI, pN, rev, meth, findP, joinP, byts, putT, tN, tT, tNil, tCons, putS, sets, for', iterOf, comp', dkI, dkSet, dkNE, dkPop, dkApp, retDk, intsOf, dget, dNil, dCons, seek, skip, never, St.set, isFresh, lim, V.free, frees, V.isNone, V.isB, inI, inB, lz', lt', uz', ut', nc', nn']
      refine ⟨by trivial, y, rfl, ?_⟩
      have k4 : ∀ fin, t__law_time_right_4 (Pick (t + 10)) (Draw (t + 10)) Long Dec Time ⟨[some .deck, some (.int s), some (.int d1), some (.int (s.fmod 86400)), some (.int y), some (.int 0), some (.lst ((sizesP y).map V.int)), none, none], .fresh, some d₂⟩ fin →
          (match V.bool (longP y) with
            | .bool b => (match b with
              | true => lim [.int 31, .int 29, .int 31, .int 30, .int 31, .int 30, .int 31, .int 31, .int 30, .int 31, .int 30, .int 31] ∧ t__law_time_right_4 (Pick (t + 10)) (Draw (t + 10)) Long Dec Time ⟨[some .deck, some (.int s), some (.int d1), some (.int (s.fmod 86400)), some (.int y), some (.int 0), some (.lst [.int 31, .int 29, .int 31, .int 30, .int 31, .int 30, .int 31, .int 31, .int 30, .int 31, .int 30, .int 31]), none, none], .fresh, some d₂⟩ fin
              | false => lim [.int 31, .int 28, .int 31, .int 30, .int 31, .int 30, .int 31, .int 31, .int 30, .int 31, .int 30, .int 31] ∧ t__law_time_right_4 (Pick (t + 10)) (Draw (t + 10)) Long Dec Time ⟨[some .deck, some (.int s), some (.int d1), some (.int (s.fmod 86400)), some (.int y), some (.int 0), some (.lst [.int 31, .int 28, .int 31, .int 30, .int 31, .int 30, .int 31, .int 31, .int 30, .int 31, .int 30, .int 31]), none, none], .fresh, some d₂⟩ fin)
            | _ => False) := by
        intro fin hk
        unfold sizesP at hk
        cases hl : longP y with
        | true => rw [hl] at hk; exact ⟨by unfold lim; decide, hk⟩
        | false => rw [hl] at hk; exact ⟨by unfold lim; decide, hk⟩
      refine k4 _ ?_
      unfold t__law_time_right_4 w__law_time_right_2
      dsimp only [seq, while']
      refine ⟨13, loop_months _ _ _ _ _ _ _ _ _ _ _ _ (sizesP y) (by simp [sizesP]) d2 m 13 d1 0 hm ?_⟩
      dsimp only
      unfold t__law_time_right_5
      have gt := c6
      obtain ⟨⟨g1, g2⟩, ⟨g3, g4⟩, g5, ⟨g6, g7⟩, ⟨g8, g9⟩, ⟨g10, g11⟩⟩ := c6
      have n1 := two_len g1 g2
      have n2 := two_len g3 g4
      have n3 := year_len g5
      have n4 := two_len g6 g7
      have n5 := two_len g8 g9
      have n6 := two_len g10 g11
      dsimp only [seq, put, ret', iff', ite', cmpT, cmp, cmp2T, cmpP, cmpEq, cmpNe, cmpLt, cmpLe, cmpGt, cmpGe, cmpIs, cmpNot, cmpIn, rd, rdO, cst, bin, binP, binAdd, binSub, binMul, binDiv, binMod, binAnd, binPow, neg, notE, notT, andT, orT, iteT, tt, vB, vOf, andE, orE, cons', nil', tup', lst', ownL, callF, callP, lenP, absP, maxP, minP, intP, bytesP, octs, rangeP, listP, baP, lenO, bytesO, retO, appL, appB, augI, augO, item, itemP, slc, sliceP, pI, pN, rev, meth, findP, joinP, byts, putT, tN, tT, tNil, tCons, putS, sets, for', iterOf, comp', dkI, dkSet, dkNE, dkPop, dkApp, retDk, intsOf, dget, dNil, dCons, seek, skip, never, St.set, isFresh, lim, V.free, frees, V.isNone, V.isB, inI, inB, lz', lt', uz', ut', nc', nn']
      rw [c4, c5]
      refine ⟨by decide, by decide, by decide, by decide, by decide, by decide, by decide, trivial, ?_⟩
      rw [show ∀ l, inner Γ__law_time_right_1 [] ⟨l, .fresh, some d₂⟩ = ⟨[none], .fresh, some d₂⟩ from fun _ => rfl]
      refine compL_map (fun st => ∃ o, st = ⟨[o], .fresh, some d₂⟩) (fun _ => true) (fun x => match x with | .int i => .byt (two i) | x => x) _ _ [] _ ?_ (by simp) ⟨_, rfl⟩ ?_
      · rintro z hz st R ⟨o, rfl⟩ hR
        have key : ∃ i : Int, z = .int i ∧ 0 ≤ i ∧ i < 100 := by
          simp only [List.mem_cons, List.not_mem_nil, or_false] at hz
          rcases hz with rfl | rfl | rfl | rfl | rfl
          · exact ⟨_, rfl, g1, g2⟩
          · exact ⟨_, rfl, g3, g4⟩
          · exact ⟨_, rfl, g6, g7⟩
          · exact ⟨_, rfl, g8, g9⟩
          · exact ⟨_, rfl, g10, g11⟩
        obtain ⟨i, rfl, i0, i1⟩ := key
        have hR' := hR ⟨[some (.int i)], .fresh, some d₂⟩ ⟨_, rfl⟩
        dsimp only [if_true] at hR'
        have hi := dec_small (n := 100 + i) (by lia)
        dsimp only [seq, put, ret', iff', ite', cmpT, cmp, cmp2T, cmpP, cmpEq, cmpNe, cmpLt, cmpLe, cmpGt, cmpGe, cmpIs, cmpNot, cmpIn, rd, rdO, cst, bin, binP, binAdd, binSub, binMul, binDiv, binMod, binAnd, binPow, neg, notE, notT, andT, orT, iteT, tt, vB, vOf, andE, orE, cons', nil', tup', lst', ownL, callF, callP, lenP, absP, maxP, minP, intP, bytesP, octs, rangeP, listP, baP, lenO, bytesO, retO, appL, appB, augI, augO, item, itemP, slc, sliceP, pI, pN, rev, meth, findP, joinP, byts, putT, tN, tT, tNil, tCons, putS, sets, for', iterOf, comp', dkI, dkSet, dkNE, dkPop, dkApp, retDk, intsOf, dget, dNil, dCons, seek, skip, never, St.set, isFresh, lim, V.free, frees, V.isNone, V.isB, inI, inB, lz', lt', uz', ut', nc', nn']
        refine ⟨by trivial, _, rfl, big 1000 (by lia), by lia, ?_⟩
        rw [dec_two i0 i1]
        exact hR'
      · rintro st ⟨o, rfl⟩
        dsimp only [List.nil_append, filter_tt, List.map_cons, List.map_nil]
        refine ⟨trivial, ?_⟩
        unfold t__law_time_right_6
        rw [← c3] at n3 g5
        dsimp only [seq, put, ret', iff', ite', cmpT, cmp, cmp2T, cmpP, cmpEq, cmpNe, cmpLt, cmpLe, cmpGt, cmpGe, cmpIs, cmpNot, cmpIn, rd, rdO, cst, bin, binP, binAdd, binSub, binMul, binDiv, binMod, binAnd, binPow, neg, notE, notT, andT, orT, iteT, tt, vB, vOf, andE, orE, cons', nil', tup', lst', ownL, callF, callP, lenP, absP, maxP, minP, intP, bytesP, octs, rangeP, listP, baP, lenO, bytesO, retO, appL, appB, augI, augO, item, itemP, slc, sliceP, pI, pN, rev, meth, findP, joinP, byts, putT, tN, tT, tNil, tCons, putS, sets, for', iterOf, comp', dkI, dkSet, dkNE, dkPop, dkApp, retDk, intsOf, dget, dNil, dCons, seek, skip, never, St.set, isFresh, lim, V.free, frees, V.isNone, V.isB, inI, inB, lz', lt', uz', ut', nc', nn']
        refine ⟨by trivial, y, rfl, big 10000 g5, ?_⟩
        refine ⟨by simp only [List.length_append, List.length_cons, List.length_nil]; lia, ⟨by decide, by decide⟩, ?_⟩
        refine ⟨by simp only [List.length_append, List.length_cons, List.length_nil]; lia, by simp only [List.length_append, List.length_cons, List.length_nil]; lia, ⟨by decide, by decide⟩, by simp only [List.length_append, List.length_cons, List.length_nil]; lia, by simp only [List.length_append, List.length_cons, List.length_nil]; lia, ⟨by decide, by decide⟩, by simp only [List.length_append, List.length_cons, List.length_nil]; lia, by simp only [List.length_append, List.length_cons, List.length_nil]; lia, ⟨by decide, by decide⟩, by simp only [List.length_append, List.length_cons, List.length_nil]; lia, by simp only [List.length_append, List.length_cons, List.length_nil]; lia, ⟨by decide, by decide⟩, by simp only [List.length_append, List.length_cons, List.length_nil]; lia, ?_⟩
        show t__law_time_right_7 _ _ _ _ _ ⟨_, _, _⟩ _
        unfold t__law_time_right_7
        dsimp only [seq, put, ret', iff', ite', cmpT, cmp, cmp2T, cmpP, cmpEq, cmpNe, cmpLt, cmpLe, cmpGt, cmpGe, cmpIs, cmpNot, cmpIn, rd, rdO, cst, bin, binP, binAdd, binSub, binMul, binDiv, binMod, binAnd, binPow, neg, notE, notT, andT, orT, iteT, tt, vB, vOf, andE, orE, cons', nil', tup', lst', ownL, callF, callP, lenP, absP, maxP, minP, intP, bytesP, octs, rangeP, listP, baP, lenO, bytesO, retO, appL, appB, augI, augO, item, itemP, slc, sliceP, pI, pN, rev, meth, findP, joinP, byts, putT, tN, tT, tNil, tCons, putS, sets, for', iterOf, comp', dkI, dkSet, dkNE, dkPop, dkApp, retDk, intsOf, dget, dNil, dCons, seek, skip, never, St.set, isFresh, lim, V.free, frees, V.isNone, V.isB, inI, inB, lz', lt', uz', ut', nc', nn']
        have hs0 : dec s = digs s.natAbs := by unfold dec; rw [if_neg (by lia)]; rfl
        have hp : numP (dec s) = some s := by rw [hs0, numP_digs]; congr 1; lia
        have hsl : (dec s).length ≤ 20 := by
          have := digs_len 10 s.natAbs (by lia)
          rw [hs0]; lia
        refine ⟨by trivial, s, rfl, big 100000000000 (by lia), by trivial, dec s, rfl, by lia, .inr ⟨s, hp, gt, ?_⟩⟩
        have he : timeP s = dec y ++ [45] ++ two (tNumber s) ++ [45] ++ two (tDom s) ++ [32] ++ two ((s.fmod 86400).fdiv 3600) ++ [58] ++ two (((s.fmod 86400).fdiv 60).fmod 60) ++ [58] ++ two ((s.fmod 86400).fmod 60) := by
          unfold timeP
          rw [← c3]
          simp only [joinL, List.map_cons, List.map_nil, List.flatten_cons, List.flatten_nil, List.append_assoc, List.append_nil]
        rw [he]
        simp only [beq_self_eq_true]
        refine ⟨by decide, by trivial, _, d₂, rfl, by simp, by simp, by simp [V.free], rfl, hd₂.mono (by lia), fun x hx d₃ hd₃ ht₃ => ?_⟩
        have key : ∃ b : List UInt8, x = .byt b ∧ b.length ≤ 900 ∧ numP b = none := by
          simp only [List.mem_cons, List.not_mem_nil, or_false] at hx
          rcases hx with rfl | rfl | rfl | rfl | rfl <;> exact ⟨_, rfl, by decide, by decide⟩
        obtain ⟨b, rfl, hb1, hb2⟩ := key
        refine ⟨by trivial, b, rfl, hb1, .inl ⟨hb2, ?_⟩⟩
        exact ⟨by trivial, h _⟩
end

section
/-- does the pattern fit all of the text? -/
noncomputable def fitsR : List UInt8 → List UInt8 → Bool
  | [], o => o.isEmpty
  | c :: p, o => if c = 42 then (List.range (o.length + 1)).any fun k => fitsR p (o.drop k) else match o with
    | [] => false
    | d :: o' => (c == 63 || c == d) && fitsR p o'

theorem fits_cons (c : UInt8) (p o : List UInt8) : fitsR (c :: p) o = if c = 42 then (List.range (o.length + 1)).any fun k => fitsR p (o.drop k) else match o with
    | [] => false
    | d :: o' => (c == 63 || c == d) && fitsR p o' := by
  rw [fitsR.eq_def]
theorem fits_star {p o : List UInt8} : fitsR (42 :: p) o = true ↔ ∃ k, k ≤ o.length ∧ fitsR p (o.drop k) = true := by
  rw [fits_cons, if_pos rfl, List.any_eq_true]
  constructor
  · rintro ⟨k, hk, h⟩; exact ⟨k, by have := List.mem_range.mp hk; lia, h⟩
  · rintro ⟨k, hk, h⟩; exact ⟨k, List.mem_range.mpr (by lia), h⟩
theorem fits_lit {c : UInt8} {p o : List UInt8} (hc : c ≠ 42) : fitsR (c :: p) o = match o with | [] => false | d :: o' => (c == 63 || c == d) && fitsR p o' := by
  rw [fits_cons, if_neg hc]

structure FI (P O : List UInt8) (at' place : Nat) (star : Option Nat) (kept : Nat) : Prop where
  al : at' ≤ P.length
  pl : place ≤ O.length
  no : star = none → fitsR P O = fitsR (P.drop at') (O.drop place)
  so : ∀ s, star = some s → s < P.length ∧ ∃ m, at' = s + 1 + m ∧ place = kept + m ∧ (fitsR P O = true ↔ ∃ k, kept ≤ k ∧ k ≤ O.length ∧ fitsR (P.drop (s + 1)) (O.drop k) = true) ∧
    (∀ X, fitsR (P.drop (s + 1)) X = true → m ≤ X.length ∧ fitsR (P.drop at') (X.drop m) = true) ∧ fitsR (P.drop (s + 1)) (O.drop kept) = fitsR (P.drop at') (O.drop place)

theorem FI.start (P O : List UInt8) : FI P O 0 0 none 0 := ⟨Nat.zero_le _, Nat.zero_le _, fun _ => rfl, fun _ h => nomatch h⟩
theorem drop_at {P : List UInt8} {a : Nat} {c : UInt8} (h : P[a]? = some c) : P.drop a = c :: P.drop (a + 1) := by
  obtain ⟨hl, e⟩ := List.getElem?_eq_some_iff.mp h
  rw [List.drop_eq_getElem_cons hl, e]

theorem FI.star {P O : List UInt8} {a place kept : Nat} {star : Option Nat} (I : FI P O a place star kept) (h : P[a]? = some 42) : FI P O (a + 1) place (some a) place := by
  have hlt := (List.getElem?_eq_some_iff.mp h).1
  have hd := drop_at h
  have pl := I.pl
  refine ⟨hlt, pl, (fun h => nomatch h), fun s hs => ?_⟩
  cases hs
  refine ⟨hlt, 0, rfl, rfl, ?_, fun X hX => ⟨Nat.zero_le _, hX⟩, rfl⟩
  cases star with
  | none =>
    rw [I.no rfl, hd, fits_star]
    constructor
    · rintro ⟨k, hk, hf⟩
      rw [List.drop_drop] at hf
      rw [List.length_drop] at hk
      exact ⟨place + k, by lia, by lia, hf⟩
    · rintro ⟨k, h1, h2, hf⟩
      refine ⟨k - place, by rw [List.length_drop]; lia, ?_⟩
      rw [List.drop_drop, show place + (k - place) = k by lia]; exact hf
  | some s =>
    obtain ⟨_, m, e1, e2, e3, e4, e5⟩ := I.so s rfl
    rw [e3]
    constructor
    · rintro ⟨k, h1, h2, hf⟩
      obtain ⟨f1, f2⟩ := e4 _ hf
      rw [hd, fits_star] at f2
      obtain ⟨j, h3, h4⟩ := f2
      rw [List.length_drop] at f1
      rw [List.length_drop, List.length_drop] at h3
      rw [List.drop_drop, List.drop_drop] at h4
      exact ⟨k + m + j, by lia, by lia, by rw [show k + m + j = k + (m + j) by lia, ← Nat.add_assoc]; simpa [Nat.add_assoc] using h4⟩
    · rintro ⟨k, h1, h2, hf⟩
      refine ⟨kept, Nat.le_refl _, by lia, ?_⟩
      rw [e5, hd, fits_star]
      refine ⟨k - place, by rw [List.length_drop]; lia, ?_⟩
      rw [List.drop_drop, show place + (k - place) = k by lia]; exact hf
theorem FI.fit {P O : List UInt8} {a place kept : Nat} {star : Option Nat} {c d : UInt8} (I : FI P O a place star kept) (h : P[a]? = some c) (hc : c ≠ 42) (ho : O[place]? = some d) (hm : c = 63 ∨ c = d) : FI P O (a + 1) (place + 1) star kept := by
  have hlt := (List.getElem?_eq_some_iff.mp h).1
  have hlo := (List.getElem?_eq_some_iff.mp ho).1
  have hd := drop_at h
  have hod := drop_at ho
  have hb : (c == 63 || c == d) = true := by rcases hm with rfl | rfl <;> simp
  have step : fitsR (P.drop a) (O.drop place) = fitsR (P.drop (a + 1)) (O.drop (place + 1)) := by
    rw [hd, hod, fits_lit hc]; simp only [hb, Bool.true_and]
  refine ⟨hlt, hlo, fun hs => by rw [I.no hs, step], fun s hs => ?_⟩
  obtain ⟨e0, m, e1, e2, e3, e4, e5⟩ := I.so s hs
  refine ⟨e0, m + 1, by lia, by lia, e3, fun X hX => ?_, by rw [e5, step]⟩
  obtain ⟨f1, f2⟩ := e4 X hX
  rw [hd, fits_lit hc] at f2
  cases hx : X.drop m with
  | nil => rw [hx] at f2; cases f2
  | cons y r =>
    rw [hx] at f2
    have hl : m < X.length := by
      have := congrArg List.length hx
      rw [List.length_drop, List.length_cons] at this; lia
    refine ⟨hl, ?_⟩
    have : X.drop (m + 1) = r := by rw [← List.drop_drop, hx]; rfl
    rw [this]
    simp only [Bool.and_eq_true] at f2
    exact f2.2
/-- at a mark that does not fit -/
theorem FI.off {P O : List UInt8} {a place : Nat} {d : UInt8} (ho : O[place]? = some d) (hm : P[a]? = none ∨ ∃ c, P[a]? = some c ∧ c ≠ 42 ∧ c ≠ 63 ∧ c ≠ d) : fitsR (P.drop a) (O.drop place) = false := by
  rw [drop_at ho]
  rcases hm with h | ⟨c, h, h1, h2, h3⟩
  · rw [List.drop_eq_nil_of_le (by simpa using h)]; rfl
  · rw [drop_at h, fits_lit h1]
    have : (c == 63 || c == d) = false := by simp [h2, h3]
    simp only [this, Bool.false_and]
theorem FI.back {P O : List UInt8} {a place kept s : Nat} (I : FI P O a place (some s) kept) (hp : place < O.length) (hm : fitsR (P.drop a) (O.drop place) = false) : FI P O (s + 1) (kept + 1) (some s) (kept + 1) := by
  obtain ⟨e0, m, e1, e2, e3, e4, e5⟩ := I.so s rfl
  refine ⟨e0, by lia, (fun h => nomatch h), fun s' hs => ?_⟩
  cases hs
  refine ⟨e0, 0, rfl, rfl, ?_, fun X hX => ⟨Nat.zero_le _, hX⟩, rfl⟩
  rw [e3]
  constructor
  · rintro ⟨k, h1, h2, hf⟩
    rcases Nat.eq_or_lt_of_le h1 with rfl | h1
    · rw [e5, hm] at hf; cases hf
    · exact ⟨k, h1, h2, hf⟩
  · rintro ⟨k, h1, h2, hf⟩
    exact ⟨k, by lia, h2, hf⟩
theorem fits_nil : ∀ p : List UInt8, fitsR p [] = p.all (· == 42)
  | [] => rfl
  | c :: p => by
    by_cases hc : c = 42
    · subst hc
      rw [fits_cons, if_pos rfl]
      simp [fits_nil p]
    · rw [fits_lit hc]; simp [hc]
theorem FI.end {P O : List UInt8} {a kept : Nat} {star : Option Nat} (I : FI P O a O.length star kept) : fitsR P O = (P.drop a).all (· == 42) := by
  rw [← fits_nil]
  cases star with
  | none => rw [I.no rfl, List.drop_length]
  | some s =>
    obtain ⟨e0, m, e1, e2, e3, e4, e5⟩ := I.so s rfl
    rw [List.drop_length] at e5
    rw [← e5]
    rw [Bool.eq_iff_iff, e3]
    constructor
    · rintro ⟨k, h1, h2, hf⟩
      obtain ⟨f1, f2⟩ := e4 _ hf
      rw [List.length_drop] at f1
      rw [show kept = k by lia]; exact hf
    · intro hf
      exact ⟨kept, Nat.le_refl _, by lia, hf⟩
theorem FI.bad {P O : List UInt8} {a place : Nat} {kept : Nat} (I : FI P O a place none kept) (hm : fitsR (P.drop a) (O.drop place) = false) : fitsR P O = false := by rw [I.no rfl, hm]
end

section
set_option maxRecDepth 20000
noncomputable def starV : Option Nat → V
  | none => .none
  | some s => .int s
noncomputable def mu (star : Option Nat) (kept a : Nat) : Nat := (match star with | none => 0 | some s => (s + 1) * 2000) + kept * 50 + a
theorem int_u8 (c k : UInt8) : ((c.toNat : Int) == (k.toNat : Int)) = decide (c = k) := by
  by_cases h : c = k
  · subst h; simp
  · have : c.toNat ≠ k.toNat := fun e => h (UInt8.toNat_inj.mp e)
    rw [decide_eq_false h, beq_eq_false_iff_ne]; lia
theorem int42 (c : UInt8) : ((c.toNat : Int) == 42) = decide (c = 42) := int_u8 c 42
theorem int63 (c : UInt8) : ((63 : Int) == (c.toNat : Int)) = decide (63 = c) := int_u8 63 c
theorem getD_of {P : List UInt8} {a : Nat} {c : UInt8} (h : P[a]? = some c) : P.getD a 0 = c := by rw [List.getD_eq_getElem?_getD, h]; rfl

section
variable {P O : List UInt8} (hP : P.length < 40) (hO : O.length < 40) (dk : Option Deck) (Q : Fl → St → Prop)
include hP hO
abbrev fst' (P O : List UInt8) (dk : Option Deck) (a place : Nat) (star : Option Nat) (kept : Nat) : St := ⟨[some (.byt P), some (.byt O), some (.int a), some (.int place), some (starV star), some (.int kept)], .fresh, dk⟩
theorem loop_fits (hend : ∀ a star kept, FI P O a O.length star kept → Q .next (fst' P O dk a O.length star kept)) (hbad : fitsR P O = false → ∀ st, st.dk = dk → Q (.ret (.bool false)) st) :
    ∀ (k a place : Nat) (star : Option Nat) (kept : Nat), FI P O a place star kept → kept ≤ place → 100000 ≤ mu star kept a + k →
    whileN (cmpT .Lt (rd 3) (callP lenP (cons' (rd 1) nil'))) b_format_fits_1 k (fst' P O dk a place star kept) Q := by
  intro k
  induction k with
  | zero =>
    intro a place star kept I hk hm
    exfalso
    have := I.al
    have := I.pl
    unfold mu at hm
    cases star with
    | none => dsimp only at hm; lia
    | some s => have := (I.so s rfl).1; dsimp only at hm; lia
  | succ k ih =>
    intro a place star kept I hk hm
    have hal := I.al
    have hpl := I.pl
    unfold whileN
    dsimp only [fst', seq, put, ret', iff', ite', cmpT, cmp, cmp2T, cmpP, cmpEq, cmpNe, cmpLt, cmpLe, cmpGt, cmpGe, cmpIs, cmpNot, cmpIn, rd, rdO, cst, bin, binP, binAdd, binSub, binMul, binDiv, binMod, binAnd, binPow, neg, notE, notT, andT, orT, iteT, tt, vB, vOf, andE, orE, cons', nil', tup', lst', ownL, callF, callP, lenP, absP, maxP, minP, intP, bytesP, octs, rangeP, listP, baP, lenO, bytesO, retO, appL, appB, augI, augO, item, itemP, slc, sliceP, pI, pN, rev, meth, findP, joinP, byts, putT, tN, tT, tNil, tCons, putS, sets, for', iterOf, comp', dkI, dkSet, dkNE, dkPop, dkApp, retDk, intsOf, dget, dNil, dCons, seek, skip, never, St.set, isFresh, lim, V.free, frees, V.isNone, V.isB, inI, inB, lz', lt', uz', ut', nc', nn']
    refine ⟨by lia, ?_⟩
    by_cases hp : (place : Int) < (O.length : Int)
    · simp only [hp, decide_true]
      have hp' : place < O.length := by lia
      obtain ⟨d, hd⟩ : ∃ d, O[place]? = some d := ⟨O[place], List.getElem?_eq_getElem hp'⟩
      unfold b_format_fits_1
      -- at a mismatch
      have miss : fitsR (P.drop a) (O.drop place) = false → iff' (cmpT .IsNot (rd 4) (cst .none)) c_format_fits_3 (seq (ret' (cst (.bool false))) skip) (fst' P O dk a place star kept) (fun fl st₁ => match fl with
          | .next => whileN (cmpT .Lt (rd 3) (callP lenP (cons' (rd 1) nil'))) b_format_fits_1 k st₁ Q
          | .ret d => Q (.ret d) st₁) := by
        intro hf
        cases star with
        | none =>
          dsimp only [fst', starV, seq, put, ret', iff', ite', cmpT, cmp, cmp2T, cmpP, cmpEq, cmpNe, cmpLt, cmpLe, cmpGt, cmpGe, cmpIs, cmpNot, cmpIn, rd, rdO, cst, bin, binP, binAdd, binSub, binMul, binDiv, binMod, binAnd, binPow, neg, notE, notT, andT, orT, iteT, tt, vB, vOf, andE, orE, cons', nil', tup', lst', ownL, callF, callP, lenP, absP, maxP, minP, intP, bytesP, octs, rangeP, listP, baP, lenO, bytesO, retO, appL, appB, augI, augO, item, itemP, slc, sliceP, pI, pN, rev, meth, findP, joinP, byts, putT, tN, tT, tNil, tCons, putS, sets, for', iterOf, comp', dkI, dkSet, dkNE, dkPop, dkApp, retDk, intsOf, dget, dNil, dCons, seek, skip, never, St.set, isFresh, lim, V.free, frees, V.isNone, V.isB, inI, inB, lz', lt', uz', ut', nc', nn']
          exact hbad (I.bad hf) _ rfl
        | some s =>
          dsimp only [fst', starV, seq, put, ret', iff', ite', cmpT, cmp, cmp2T, cmpP, cmpEq, cmpNe, cmpLt, cmpLe, cmpGt, cmpGe, cmpIs, cmpNot, cmpIn, rd, rdO, cst, bin, binP, binAdd, binSub, binMul, binDiv, binMod, binAnd, binPow, neg, notE, notT, andT, orT, iteT, tt, vB, vOf, andE, orE, cons', nil', tup', lst', ownL, callF, callP, lenP, absP, maxP, minP, intP, bytesP, octs, rangeP, listP, baP, lenO, bytesO, retO, appL, appB, augI, augO, item, itemP, slc, sliceP, pI, pN, rev, meth, findP, joinP, byts, putT, tN, tT, tNil, tCons, putS, sets, for', iterOf, comp', dkI, dkSet, dkNE, dkPop, dkApp, retDk, intsOf, dget, dNil, dCons, seek, skip, never, St.set, isFresh, lim, V.free, frees, V.isNone, V.isB, inI, inB, lz', lt', uz', ut', nc', nn']
          unfold c_format_fits_3
          dsimp only [List.reverse_cons, List.reverse_nil, List.nil_append, List.cons_append, seq, put, ret', iff', ite', cmpT, cmp, cmp2T, cmpP, cmpEq, cmpNe, cmpLt, cmpLe, cmpGt, cmpGe, cmpIs, cmpNot, cmpIn, rd, rdO, cst, bin, binP, binAdd, binSub, binMul, binDiv, binMod, binAnd, binPow, neg, notE, notT, andT, orT, iteT, tt, vB, vOf, andE, orE, cons', nil', tup', lst', ownL, callF, callP, lenP, absP, maxP, minP, intP, bytesP, octs, rangeP, listP, baP, lenO, bytesO, retO, appL, appB, augI, augO, item, itemP, slc, sliceP, pI, pN, rev, meth, findP, joinP, byts, putT, tN, tT, tNil, tCons, putS, sets, for', iterOf, comp', dkI, dkSet, dkNE, dkPop, dkApp, retDk, intsOf, dget, dNil, dCons, seek, skip, never, St.set, isFresh, lim, V.free, frees, V.isNone, V.isB, inI, inB, lz', lt', uz', ut', nc', nn']
          refine ⟨by decide, by trivial, ?_⟩
          have I' := I.back hp' hf
          have := ih (s + 1) (kept + 1) (some s) (kept + 1) I' (Nat.le_refl _) (by
            unfold mu at hm ⊢
            dsimp only at hm ⊢
            lia)
          exact this
      dsimp only [fst', seq, put, ret', iff', ite', cmpT, cmp, cmp2T, cmpP, cmpEq, cmpNe, cmpLt, cmpLe, cmpGt, cmpGe, cmpIs, cmpNot, cmpIn, rd, rdO, cst, bin, binP, binAdd, binSub, binMul, binDiv, binMod, binAnd, binPow, neg, notE, notT, andT, orT, iteT, tt, vB, vOf, andE, orE, cons', nil', tup', lst', ownL, callF, callP, lenP, absP, maxP, minP, intP, bytesP, octs, rangeP, listP, baP, lenO, bytesO, retO, appL, appB, augI, augO, item, itemP, slc, sliceP, pI, pN, rev, meth, findP, joinP, byts, putT, tN, tT, tNil, tCons, putS, sets, for', iterOf, comp', dkI, dkSet, dkNE, dkPop, dkApp, retDk, intsOf, dget, dNil, dCons, seek, skip, never, St.set, isFresh, lim, V.free, frees, V.isNone, V.isB, inI, inB, lz', lt', uz', ut', nc', nn']
      refine ⟨by lia, ?_⟩
      by_cases ha : (a : Int) < (P.length : Int)
      · simp only [ha, decide_true]
        have ha' : a < P.length := by lia
        obtain ⟨c, hc⟩ : ∃ c, P[a]? = some c := ⟨P[a], List.getElem?_eq_getElem ha'⟩
        rw [Int.toNat_natCast, getD_of hc, Int.toNat_natCast, getD_of hd, int42]
        refine ⟨⟨by lia, by lia, by trivial⟩, ?_⟩
        by_cases h42 : c = 42
        · subst h42
          simp only [decide_true]
          unfold c_format_fits_1
          dsimp only [List.reverse_cons, List.reverse_nil, List.nil_append, List.cons_append, seq, put, ret', iff', ite', cmpT, cmp, cmp2T, cmpP, cmpEq, cmpNe, cmpLt, cmpLe, cmpGt, cmpGe, cmpIs, cmpNot, cmpIn, rd, rdO, cst, bin, binP, binAdd, binSub, binMul, binDiv, binMod, binAnd, binPow, neg, notE, notT, andT, orT, iteT, tt, vB, vOf, andE, orE, cons', nil', tup', lst', ownL, callF, callP, lenP, absP, maxP, minP, intP, bytesP, octs, rangeP, listP, baP, lenO, bytesO, retO, appL, appB, augI, augO, item, itemP, slc, sliceP, pI, pN, rev, meth, findP, joinP, byts, putT, tN, tT, tNil, tCons, putS, sets, for', iterOf, comp', dkI, dkSet, dkNE, dkPop, dkApp, retDk, intsOf, dget, dNil, dCons, seek, skip, never, St.set, isFresh, lim, V.free, frees, V.isNone, V.isB, inI, inB, lz', lt', uz', ut', nc', nn']
          refine ⟨by decide, by trivial, ?_⟩
          have := ih (a + 1) place (some a) place (I.star hc) (Nat.le_refl _) (by
            unfold mu at hm ⊢
            cases star with
            | none => dsimp only at hm ⊢; lia
            | some s =>
              have := (I.so s rfl).2
              obtain ⟨m, e1, e2, _⟩ := this
              dsimp only at hm ⊢; lia)
          exact this
        · rw [decide_eq_false h42]
          dsimp only
          refine ⟨by lia, ?_⟩
          refine ⟨⟨by lia, by lia, by trivial⟩, ⟨by lia, by lia, by lia⟩, by decide, ?_⟩
          rw [int63, int_u8]
          by_cases hm' : c = 63 ∨ c = d
          · have hb : (decide ((63 : UInt8) = c) || (decide (d = c) || false)) = true := by rcases hm' with rfl | rfl <;> simp
            rw [hb]
            unfold c_format_fits_2
            dsimp only
            dsimp only [seq, put, ret', iff', ite', cmpT, cmp, cmp2T, cmpP, cmpEq, cmpNe, cmpLt, cmpLe, cmpGt, cmpGe, cmpIs, cmpNot, cmpIn, rd, rdO, cst, bin, binP, binAdd, binSub, binMul, binDiv, binMod, binAnd, binPow, neg, notE, notT, andT, orT, iteT, tt, vB, vOf, andE, orE, cons', nil', tup', lst', ownL, callF, callP, lenP, absP, maxP, minP, intP, bytesP, octs, rangeP, listP, baP, lenO, bytesO, retO, appL, appB, augI, augO, item, itemP, slc, sliceP, pI, pN, rev, meth, findP, joinP, byts, putT, tN, tT, tNil, tCons, putS, sets, for', iterOf, comp', dkI, dkSet, dkNE, dkPop, dkApp, retDk, intsOf, dget, dNil, dCons, seek, skip, never, St.set, isFresh, lim, V.free, frees, V.isNone, V.isB, inI, inB, lz', lt', uz', ut', nc', nn']
            have := ih (a + 1) (place + 1) star kept (I.fit hc h42 hd hm') (by lia) (by unfold mu at hm ⊢; lia)
            exact this
          · have hb : (decide ((63 : UInt8) = c) || (decide (d = c) || false)) = false := by
              simp only [Bool.or_eq_false_iff, decide_eq_false_iff_not]
              exact ⟨fun e => hm' (.inl e.symm), fun e => hm' (.inr e.symm), trivial⟩
            rw [hb]
            dsimp only
            have := miss (FI.off hd (.inr ⟨c, hc, h42, fun e => hm' (.inl e), fun e => hm' (.inr e)⟩))
            exact this
      · simp only [ha, decide_false]
        refine ⟨by lia, ?_⟩
        have := miss (FI.off hd (.inl (by rw [List.getElem?_eq_none]; lia)))
        exact this
    · simp only [hp, decide_false]
      have : place = O.length := by lia
      subst this
      exact hend a star kept I
end

theorem loop_stars {P O : List UInt8} (hP : P.length < 40) (dk : Option Deck) (Q : Fl → St → Prop) (x2 x4 x5 : Option V) : ∀ (k a : Nat), a ≤ P.length → P.length ≤ a + k →
    (∀ a', a' ≤ P.length → ((a' = P.length) ↔ (P.drop a).all (· == 42) = true) → Q .next ⟨[some (.byt P), some (.byt O), some (.int a'), x2, x4, x5], .fresh, dk⟩) →
    whileN (andT (cmpT .Lt (rd 2) (callP lenP (cons' (rd 0) nil'))) (andT (cmpT .Eq (item (rd 0) (rd 2)) (cst (.int 42))) (tt true))) b_format_fits_2 (k + 1) ⟨[some (.byt P), some (.byt O), some (.int a), x2, x4, x5], .fresh, dk⟩ Q := by
  intro k
  induction k with
  | zero =>
    intro a ha hk hQ
    have : a = P.length := by lia
    subst this
    unfold whileN
    dsimp only [seq, put, ret', iff', ite', cmpT, cmp, cmp2T, cmpP, cmpEq, cmpNe, cmpLt, cmpLe, cmpGt, cmpGe, cmpIs, cmpNot, cmpIn, rd, rdO, cst, bin, binP, binAdd, binSub, binMul, binDiv, binMod, binAnd, binPow, neg, notE, notT, andT, orT, iteT, tt, vB, vOf, andE, orE, cons', nil', tup', lst', ownL, callF, callP, lenP, absP, maxP, minP, intP, bytesP, octs, rangeP, listP, baP, lenO, bytesO, retO, appL, appB, augI, augO, item, itemP, slc, sliceP, pI, pN, rev, meth, findP, joinP, byts, putT, tN, tT, tNil, tCons, putS, sets, for', iterOf, comp', dkI, dkSet, dkNE, dkPop, dkApp, retDk, intsOf, dget, dNil, dCons, seek, skip, never, St.set, isFresh, lim, V.free, frees, V.isNone, V.isB, inI, inB, lz', lt', uz', ut', nc', nn']
    refine ⟨by lia, ?_⟩
    simp only [show ¬ ((P.length : Int) < (P.length : Int)) by lia, decide_false]
    exact hQ _ (Nat.le_refl _) (by simp)
  | succ k ih =>
    intro a ha hk hQ
    unfold whileN
    dsimp only [seq, put, ret', iff', ite', cmpT, cmp, cmp2T, cmpP, cmpEq, cmpNe, cmpLt, cmpLe, cmpGt, cmpGe, cmpIs, cmpNot, cmpIn, rd, rdO, cst, bin, binP, binAdd, binSub, binMul, binDiv, binMod, binAnd, binPow, neg, notE, notT, andT, orT, iteT, tt, vB, vOf, andE, orE, cons', nil', tup', lst', ownL, callF, callP, lenP, absP, maxP, minP, intP, bytesP, octs, rangeP, listP, baP, lenO, bytesO, retO, appL, appB, augI, augO, item, itemP, slc, sliceP, pI, pN, rev, meth, findP, joinP, byts, putT, tN, tT, tNil, tCons, putS, sets, for', iterOf, comp', dkI, dkSet, dkNE, dkPop, dkApp, retDk, intsOf, dget, dNil, dCons, seek, skip, never, St.set, isFresh, lim, V.free, frees, V.isNone, V.isB, inI, inB, lz', lt', uz', ut', nc', nn']
    refine ⟨by lia, ?_⟩
    by_cases h : (a : Int) < (P.length : Int)
    · have ha' : a < P.length := by lia
      obtain ⟨c, hc⟩ : ∃ c, P[a]? = some c := ⟨P[a], List.getElem?_eq_getElem ha'⟩
      have hd := drop_at hc
      simp only [h, decide_true]
      rw [Int.toNat_natCast, getD_of hc, int42]
      refine ⟨⟨by lia, by lia, by trivial⟩, ?_⟩
      by_cases h42 : c = 42
      · simp only [h42, decide_true]
        unfold b_format_fits_2
        dsimp only [seq, put, ret', iff', ite', cmpT, cmp, cmp2T, cmpP, cmpEq, cmpNe, cmpLt, cmpLe, cmpGt, cmpGe, cmpIs, cmpNot, cmpIn, rd, rdO, cst, bin, binP, binAdd, binSub, binMul, binDiv, binMod, binAnd, binPow, neg, notE, notT, andT, orT, iteT, tt, vB, vOf, andE, orE, cons', nil', tup', lst', ownL, callF, callP, lenP, absP, maxP, minP, intP, bytesP, octs, rangeP, listP, baP, lenO, bytesO, retO, appL, appB, augI, augO, item, itemP, slc, sliceP, pI, pN, rev, meth, findP, joinP, byts, putT, tN, tT, tNil, tCons, putS, sets, for', iterOf, comp', dkI, dkSet, dkNE, dkPop, dkApp, retDk, intsOf, dget, dNil, dCons, seek, skip, never, St.set, isFresh, lim, V.free, frees, V.isNone, V.isB, inI, inB, lz', lt', uz', ut', nc', nn']
        refine ih (a + 1) (by lia) (by lia) fun a' h1 h2 => hQ a' h1 ?_
        rw [hd, h42]
        simpa using h2
      · simp only [h42, decide_false]
        refine hQ a ha ?_
        rw [hd]
        constructor
        · intro e; lia
        · intro e; simp [h42] at e
    · simp only [h, decide_false]
      have : a = P.length := by lia
      subst this
      exact hQ _ (Nat.le_refl _) (by simp)

noncomputable def Fits : Spec := fun ds dk Q => ∃ P O : List UInt8, ds = [.byt P, .byt O] ∧ P.length < 40 ∧ O.length < 40 ∧ Q (.bool (fitsR P O)) dk
theorem fFits {ds dk Q} (h : Fits ds dk Q) : entry Γ_format_fits 2 sem_format_fits ds dk Q := by
  obtain ⟨P, O, rfl, hP, hO, h⟩ := h
  refine ⟨rfl, ?_⟩
  rw [show start Γ_format_fits [.byt P, .byt O] dk = ⟨[some (.byt P), some (.byt O), none, none, none, none], .fresh, dk⟩ from rfl]
  show t_format_fits_0 _ _
  unfold t_format_fits_0
  simp only [seq, put, ret', iff', ite', cmpT, cmp, cmp2T, cmpP, cmpEq, cmpNe, cmpLt, cmpLe, cmpGt, cmpGe, cmpIs, cmpNot, cmpIn, rd, rdO, cst, bin, binP, binAdd, binSub, binMul, binDiv, binMod, binAnd, binPow, neg, notE, notT, andT, orT, iteT, tt, vB, vOf, andE, orE, cons', nil', tup', lst', ownL, callF, callP, lenP, absP, maxP, minP, intP, bytesP, octs, rangeP, listP, baP, lenO, bytesO, retO, appL, appB, augI, augO, item, itemP, slc, sliceP, pI, pN, rev, meth, findP, joinP, byts, putT, tN, tT, tNil, tCons, putS, sets, for', iterOf, comp', dkI, dkSet, dkNE, dkPop, dkApp, retDk, intsOf, dget, dNil, dCons, seek, skip, never, St.set, isFresh, lim, V.free, frees, V.isNone, V.isB, inI, inB, lz', lt', uz', ut', nc', nn']
  refine ⟨by decide, trivial, ?_⟩
  unfold t_format_fits_1 w_format_fits_1
  dsimp only [seq, while']
  refine ⟨100000, loop_fits hP hO dk _ (fun a star kept I => ?_) (fun hf st hst => ?_) 100000 0 0 none 0 (FI.start P O) (Nat.le_refl _) (by unfold mu; simp)⟩
  · unfold t_format_fits_2 w_format_fits_2
    dsimp only [seq, while', fst']
    refine ⟨41, loop_stars hP dk _ _ _ _ 40 a I.al (by lia) fun a' h1 h2 => ?_⟩
    unfold t_format_fits_3
    dsimp only [seq, put, ret', iff', ite', cmpT, cmp, cmp2T, cmpP, cmpEq, cmpNe, cmpLt, cmpLe, cmpGt, cmpGe, cmpIs, cmpNot, cmpIn, rd, rdO, cst, bin, binP, binAdd, binSub, binMul, binDiv, binMod, binAnd, binPow, neg, notE, notT, andT, orT, iteT, tt, vB, vOf, andE, orE, cons', nil', tup', lst', ownL, callF, callP, lenP, absP, maxP, minP, intP, bytesP, octs, rangeP, listP, baP, lenO, bytesO, retO, appL, appB, augI, augO, item, itemP, slc, sliceP, pI, pN, rev, meth, findP, joinP, byts, putT, tN, tT, tNil, tCons, putS, sets, for', iterOf, comp', dkI, dkSet, dkNE, dkPop, dkApp, retDk, intsOf, dget, dNil, dCons, seek, skip, never, St.set, isFresh, lim, V.free, frees, V.isNone, V.isB, inI, inB, lz', lt', uz', ut', nc', nn']
    refine ⟨by lia, by trivial, ?_⟩
    have : ((a' : Int) == (P.length : Int)) = fitsR P O := by
      rw [I.end, Bool.eq_iff_iff, ← h2, beq_iff_eq]
      lia
    rw [this]; exact h
  · rw [hf] at h
    exact ⟨by trivial, by rw [hst]; exact h⟩
end

section
theorem iter_rng {m : Int} (h : 0 ≤ m ∧ m.toNat < 1000000) : iterOf (.rng m) = some ((List.range m.toNat).map fun (j : Nat) => .int j) := by
  unfold iterOf; dsimp only; rw [if_pos h]
noncomputable def FitsRec : Nat → Spec
  | 0 => fun _ _ _ => False
  | k + 1 => fun ds dk Q => ∃ P O : List UInt8, ds = [.byt P, .byt O] ∧ P.length ≤ k ∧ O.length < 40 ∧ Q (.bool (fitsR P O)) dk
theorem fFitsRec (k : Nat) (hk : k ≤ 40) {ds dk Q} (h : FitsRec (k + 1) ds dk Q) : entry Γ__law_fits 2 (sem__law_fits (FitsRec k)) ds dk Q := by
  obtain ⟨P, O, rfl, hP, hO, h⟩ := h
  refine ⟨rfl, ?_⟩
  rw [show start Γ__law_fits [.byt P, .byt O] dk = ⟨[some (.byt P), some (.byt O)], .fresh, dk⟩ from rfl]
  show t__law_fits_0 _ _ _
  unfold t__law_fits_0
  dsimp only [seq, put, ret', iff', ite', cmpT, cmp, cmp2T, cmpP, cmpEq, cmpNe, cmpLt, cmpLe, cmpGt, cmpGe, cmpIs, cmpNot, cmpIn, rd, rdO, cst, bin, binP, binAdd, binSub, binMul, binDiv, binMod, binAnd, binPow, neg, notE, notT, andT, orT, iteT, tt, vB, vOf, andE, orE, cons', nil', tup', lst', ownL, callF, callP, lenP, absP, maxP, minP, intP, bytesP, octs, rangeP, listP, baP, lenO, bytesO, retO, appL, appB, augI, augO, item, itemP, slc, sliceP, pI, pN, rev, meth, findP, joinP, byts, putT, tN, tT, tNil, tCons, putS, sets, for', iterOf, comp', dkI, dkSet, dkNE, dkPop, dkApp, retDk, intsOf, dget, dNil, dCons, seek, skip, never, St.set, isFresh, lim, V.free, frees, V.isNone, V.isB, inI, inB, lz', lt', uz', ut', nc', nn']
  rcases hPe : P with _ | ⟨c, p⟩
  · subst hPe
    simp only [nil_beq]
    have : (O == []) = fitsR [] O := by cases O <;> rfl
    rw [this]
    exact ⟨by trivial, h⟩
  · rw [← hPe]
    have hP' : p.length + 1 = P.length := by rw [hPe]; rfl
    obtain ⟨j, rfl⟩ : ∃ j, k = j + 1 := ⟨k - 1, by lia⟩
    rw [show ((P : List UInt8) == []) = false by rw [hPe]; rfl]
    have e1 : cut P none (some 1) = [c] := by rw [hPe]; exact cut_to (c :: p) 1
    have e2 : cut P (some 1) none = p := by rw [hPe]; exact cut_from (c :: p) 1
    unfold t__law_fits_1
    dsimp only [seq, put, ret', iff', ite', cmpT, cmp, cmp2T, cmpP, cmpEq, cmpNe, cmpLt, cmpLe, cmpGt, cmpGe, cmpIs, cmpNot, cmpIn, rd, rdO, cst, bin, binP, binAdd, binSub, binMul, binDiv, binMod, binAnd, binPow, neg, notE, notT, andT, orT, iteT, tt, vB, vOf, andE, orE, cons', nil', tup', lst', ownL, callF, callP, lenP, absP, maxP, minP, intP, bytesP, octs, rangeP, listP, baP, lenO, bytesO, retO, appL, appB, augI, augO, item, itemP, slc, sliceP, pI, pN, rev, meth, findP, joinP, byts, putT, tN, tT, tNil, tCons, putS, sets, for', comp', dkI, dkSet, dkNE, dkPop, dkApp, retDk, intsOf, dget, dNil, dCons, seek, skip, never, St.set, isFresh, lim, V.free, frees, V.isNone, V.isB, inI, inB, lz', lt', uz', ut', nc', nn']
    refine ⟨by lia, ?_⟩
    rw [e1]
    by_cases hc : c = 42
    · subst hc
      simp only [beq_self_eq_true]
      refine ⟨by lia, ?_⟩
      rw [iter_rng (by lia)]
      refine ⟨trivial, ?_⟩
      rw [show inner Γ__law_fits_1 [1, 0] ⟨[some (.byt P), some (.byt O)], .fresh, dk⟩ = ⟨[some (.byt O), some (.byt P), none], .fresh, dk⟩ from rfl]
      rw [show ((O.length : Int) + 1).toNat = O.length + 1 by lia]
      refine compL_map (fun st => ∃ o, st = ⟨[some (.byt O), some (.byt P), o], .fresh, dk⟩) (fun x => match x with | .int i => fitsR p (O.drop i.toNat) | _ => false) id _ _ [] _ ?_ (by simp; lia) ⟨_, rfl⟩ ?_
      · rintro z hz st R ⟨o, rfl⟩ hR
        obtain ⟨i, hi, rfl⟩ := List.mem_map.mp hz
        have hR' := hR ⟨[some (.byt O), some (.byt P), some (.int i)], .fresh, dk⟩ ⟨_, rfl⟩
        simp only [Int.toNat_natCast, id] at hR'
        dsimp only [seq, put, ret', iff', ite', cmpT, cmp, cmp2T, cmpP, cmpEq, cmpNe, cmpLt, cmpLe, cmpGt, cmpGe, cmpIs, cmpNot, cmpIn, rd, rdO, cst, bin, binP, binAdd, binSub, binMul, binDiv, binMod, binAnd, binPow, neg, notE, notT, andT, orT, iteT, tt, vB, vOf, andE, orE, cons', nil', tup', lst', ownL, callF, callP, lenP, absP, maxP, minP, intP, bytesP, octs, rangeP, listP, baP, lenO, bytesO, retO, appL, appB, augI, augO, item, itemP, slc, sliceP, pI, pN, rev, meth, findP, joinP, byts, putT, tN, tT, tNil, tCons, putS, sets, for', iterOf, comp', dkI, dkSet, dkNE, dkPop, dkApp, retDk, intsOf, dget, dNil, dCons, seek, skip, never, St.set, isFresh, lim, V.free, frees, V.isNone, V.isB, inI, inB, lz', lt', uz', ut', nc', nn']
        refine ⟨by lia, by lia, by trivial, ?_⟩
        rw [e2, cut_from]
        refine ⟨p, O.drop i, rfl, by lia, by rw [List.length_drop]; lia, ?_⟩
        cases hf : fitsR p (O.drop i) with
        | true => rw [hf, if_pos rfl] at hR'; exact hR'
        | false => rw [hf, if_neg (by decide)] at hR'; exact hR'
      · rintro st ⟨o, rfl⟩
        simp only [List.nil_append, List.map_id]
        refine ⟨trivial, by decide, ?_, by trivial, ?_⟩
        · refine Nat.le_trans (List.length_filter_le _ _) ?_
          simp; lia
        · have e : (!(List.filter (fun x => match x with | .int i => fitsR p (O.drop i.toNat) | _ => false) ((List.range (O.length + 1)).map fun (j : Nat) => V.int j)).isEmpty) = fitsR (42 :: p) O := by
            rw [fits_cons, if_pos rfl, Bool.eq_iff_iff, List.any_eq_true]
            rw [List.filter_map, List.isEmpty_map]
            simp only [Bool.not_eq_true', List.isEmpty_eq_false_iff_exists_mem, List.mem_filter, Function.comp, Int.toNat_natCast]
          rw [e]; rw [hPe] at h; exact h
    · rw [show ([c] == [42]) = false by simpa using hc]
      show t__law_fits_2 _ _ _
      unfold t__law_fits_2
      dsimp only [seq, put, ret', iff', ite', cmpT, cmp, cmp2T, cmpP, cmpEq, cmpNe, cmpLt, cmpLe, cmpGt, cmpGe, cmpIs, cmpNot, cmpIn, rd, rdO, cst, bin, binP, binAdd, binSub, binMul, binDiv, binMod, binAnd, binPow, neg, notE, notT, andT, orT, iteT, tt, vB, vOf, andE, orE, cons', nil', tup', lst', ownL, callF, callP, lenP, absP, maxP, minP, intP, bytesP, octs, rangeP, listP, baP, lenO, bytesO, retO, appL, appB, augI, augO, item, itemP, slc, sliceP, pI, pN, rev, meth, findP, joinP, byts, putT, tN, tT, tNil, tCons, putS, sets, for', iterOf, comp', dkI, dkSet, dkNE, dkPop, dkApp, retDk, intsOf, dget, dNil, dCons, seek, skip, never, St.set, isFresh, lim, V.free, frees, V.isNone, V.isB, inI, inB, lz', lt', uz', ut', nc', nn']
      cases O with
      | nil =>
        rw [show (([] : List UInt8) != []) = false from rfl]
        rw [hPe, fits_lit hc] at h
        exact ⟨by trivial, h⟩
      | cons d o =>
        rw [show ((d :: o : List UInt8) != []) = true from rfl]
        have e3 : cut (d :: o) none (some 1) = [d] := cut_to (d :: o) 1
        have e4 : cut (d :: o) (some 1) none = o := cut_from (d :: o) 1
        simp only [List.length_cons] at hO
        simp only [e1, e2, e3, e4, seq, put, ret', iff', ite', cmpT, cmp, cmp2T, cmpP, cmpEq, cmpNe, cmpLt, cmpLe, cmpGt, cmpGe, cmpIs, cmpNot, cmpIn, rd, rdO, cst, bin, binP, binAdd, binSub, binMul, binDiv, binMod, binAnd, binPow, neg, notE, notT, andT, orT, iteT, tt, vB, vOf, andE, orE, cons', nil', tup', lst', ownL, callF, callP, lenP, absP, maxP, minP, intP, bytesP, octs, rangeP, listP, baP, lenO, bytesO, retO, appL, appB, augI, augO, item, itemP, slc, sliceP, pI, pN, rev, meth, findP, joinP, byts, putT, tN, tT, tNil, tCons, putS, sets, for', iterOf, comp', dkI, dkSet, dkNE, dkPop, dkApp, retDk, intsOf, dget, dNil, dCons, seek, skip, never, St.set, isFresh, lim, V.free, frees, V.isNone, V.isB, inI, inB, lz', lt', uz', ut', nc', nn']
        refine ⟨by lia, by lia, by decide, ?_⟩
        rw [hPe, fits_lit hc] at h
        dsimp only at h
        have eb : (([63] : List UInt8) == [c] || ([d] == [c] || false)) = (c == 63 || c == d) := by
          rw [Bool.eq_iff_iff]
          simp
          constructor
          · rintro (h | h) <;> simp [h]
          · rintro (h | h) <;> simp [h]
        rw [eb]
        cases hb : (c == 63 || c == d) with
        | false => rw [hb] at h; exact ⟨by trivial, h⟩
        | true =>
          rw [hb] at h
          exact ⟨by lia, by lia, by trivial, p, o, rfl, by lia, by lia, by trivial, h⟩
end

section
theorem listed1 : ∀ (xs : List V) , (∀ x ∈ xs, ∃ c : UInt8, x = .byt [c]) → ∃ b : List UInt8, xs = b.map fun c => .byt [c]
  | [], _ => ⟨[], rfl⟩
  | x :: xs, h => by
    obtain ⟨c, rfl⟩ := h x List.mem_cons_self
    obtain ⟨b, rfl⟩ := listed1 xs fun y hy => h y (List.mem_cons_of_mem _ hy)
    exact ⟨c :: b, rfl⟩
theorem flat1 (b : List UInt8) : (b.map fun c => [c]).flatten = b := by
  induction b with
  | nil => rfl
  | cons c r ih => simp only [List.map_cons, List.flatten_cons, ih]; rfl
theorem join1 (xs : List V) (h : ∀ x ∈ xs, ∃ c : UInt8, x = .byt [c]) (R : List (List UInt8) → Prop) (hQ : ∀ (b : List UInt8) (bs : List (List UInt8)), b.length = xs.length → joinL [] bs = b → (bs.map (·.length)).sum ≤ xs.length → R bs) : byts xs R := by
  obtain ⟨b, rfl⟩ := listed1 xs h
  simp only [List.length_map] at hQ
  refine byts_map b (fun c => [c]) _ (hQ b _ rfl ?_ ?_)
  · rw [joinL_flat, flat1]
  · have := sum_le b (fun c => [c]) 1 fun c _ => Nat.le_refl _
    lia

theorem fFitsRight {t : Int} {ds dk Q} (h : Right t ds dk Q) : entry Γ__law_fits_right 1 (sem__law_fits_right (Draw (t + 20)) (Pick (t + 20)) Fits (FitsRec 6)) ds dk Q := by
  obtain ⟨d, rfl, rfl, hd, h⟩ := h
  refine ⟨rfl, ?_⟩
  rw [show start Γ__law_fits_right [.deck] (some d) = ⟨[some .deck, none, none], .fresh, some d⟩ from rfl]
  have hdt := hd.hi
  show t__law_fits_right_0 _ _ _ _ _ _
  unfold t__law_fits_right_0
  dsimp only [seq, put, ret', iff', ite', cmpT, cmp, cmp2T, cmpP, cmpEq, cmpNe, cmpLt, cmpLe, cmpGt, cmpGe, cmpIs, cmpNot, cmpIn, rd, rdO, cst, bin, binP, binAdd, binSub, binMul, binDiv, binMod, binAnd, binPow, neg, notE, notT, andT, orT, iteT, tt, vB, vOf, andE, orE, cons', nil', tup', lst', ownL, callF, callP, lenP, absP, maxP, minP, intP, bytesP, octs, rangeP, listP, baP, lenO, bytesO, retO, appL, appB, augI, augO, item, itemP, slc, sliceP, pI, pN, rev, meth, findP, joinP, byts, putT, tN, tT, tNil, tCons, putS, sets, for', comp', dkI, dkSet, dkNE, dkPop, dkApp, retDk, intsOf, dget, dNil, dCons, seek, skip, never, St.set, isFresh, lim, V.free, frees, V.isNone, V.isB, inI, inB, lz', lt', uz', ut', nc', nn']
  refine ⟨by trivial, by trivial, 6, d, rfl, by decide, by decide, rfl, hd.mono (by lia), fun r d₁ h0 h1 hd₁ ht₁ => ?_⟩
  dsimp only
  rw [iter_rng ⟨h0, by lia⟩]
  refine ⟨trivial, ?_⟩
  rw [show inner Γ__law_fits_right_1 [0] ⟨[some .deck, none, none], .fresh, some d₁⟩ = ⟨[some .deck, none], .fresh, some d₁⟩ from rfl]
  refine compL_any (fun k st => ∃ o d', st = ⟨[some .deck, o], .fresh, some d'⟩ ∧ Dk (d.turn + 1 + k) d') (fun x => ∃ c : UInt8, x = .byt [c]) 7 _ _ [] 0 _ (by simp; lia) ?_ (by simp; lia) ⟨_, _, rfl, hd₁.mono (by lia)⟩ ?_
  · rintro y hy k st R hk ⟨o, d', rfl, hd'⟩ hR
    dsimp only [seq, put, ret', iff', ite', cmpT, cmp, cmp2T, cmpP, cmpEq, cmpNe, cmpLt, cmpLe, cmpGt, cmpGe, cmpIs, cmpNot, cmpIn, rd, rdO, cst, bin, binP, binAdd, binSub, binMul, binDiv, binMod, binAnd, binPow, neg, notE, notT, andT, orT, iteT, tt, vB, vOf, andE, orE, cons', nil', tup', lst', ownL, callF, callP, lenP, absP, maxP, minP, intP, bytesP, octs, rangeP, listP, baP, lenO, bytesO, retO, appL, appB, augI, augO, item, itemP, slc, sliceP, pI, pN, rev, meth, findP, joinP, byts, putT, tN, tT, tNil, tCons, putS, sets, for', comp', dkI, dkSet, dkNE, dkPop, dkApp, retDk, intsOf, dget, dNil, dCons, seek, skip, never, St.set, isFresh, lim, V.free, frees, V.isNone, V.isB, inI, inB, lz', lt', uz', ut', nc', nn']
    have := hd'.hi
    refine ⟨by decide, by trivial, _, d', rfl, by simp, by simp, ?_, rfl, hd'.mono (by lia), fun x hx d₂ hd₂ ht₂ => ?_⟩
    · intro x hx
      simp only [List.mem_cons, List.not_mem_nil, or_false] at hx
      rcases hx with rfl | rfl | rfl | rfl | rfl <;> rfl
    · refine hR x _ ?_ ⟨_, d₂, rfl, hd₂.mono (by lia)⟩
      simp only [List.mem_cons, List.not_mem_nil, or_false] at hx
      rcases hx with rfl | rfl | rfl | rfl | rfl <;> exact ⟨_, rfl⟩
  · rintro xs st hl hx ⟨o, d', rfl, hd'⟩
    simp only [List.length_map, List.length_range] at hl
    dsimp only [List.nil_append, seq, put, ret', iff', ite', cmpT, cmp, cmp2T, cmpP, cmpEq, cmpNe, cmpLt, cmpLe, cmpGt, cmpGe, cmpIs, cmpNot, cmpIn, rd, rdO, cst, bin, binP, binAdd, binSub, binMul, binDiv, binMod, binAnd, binPow, neg, notE, notT, andT, orT, iteT, tt, vB, vOf, andE, orE, cons', nil', tup', lst', ownL, callF, callP, lenP, absP, maxP, minP, intP, bytesP, octs, rangeP, listP, baP, lenO, bytesO, retO, appL, appB, augI, augO, item, itemP, slc, sliceP, pI, pN, rev, meth, findP, joinP, byts, putT, tN, tT, tNil, tCons, putS, sets, for', comp', dkI, dkSet, dkNE, dkPop, dkApp, retDk, intsOf, dget, dNil, dCons, seek, skip, never, St.set, isFresh, lim, V.free, frees, V.isNone, V.isB, inI, inB, lz', lt', uz', ut', nc', nn']
    refine ⟨trivial, join1 xs hx _ fun P bs hP hj hs => ⟨by lia, ?_⟩⟩
    rw [hj]
    show t__law_fits_right_1 _ _ _ _ ⟨[some .deck, some (.byt P), none], .fresh, some d'⟩ _
    have hdt' := hd'.hi
    simp only [List.length_map, List.length_range] at hdt'
    unfold t__law_fits_right_1
    dsimp only [seq, put, ret', iff', ite', cmpT, cmp, cmp2T, cmpP, cmpEq, cmpNe, cmpLt, cmpLe, cmpGt, cmpGe, cmpIs, cmpNot, cmpIn, rd, rdO, cst, bin, binP, binAdd, binSub, binMul, binDiv, binMod, binAnd, binPow, neg, notE, notT, andT, orT, iteT, tt, vB, vOf, andE, orE, cons', nil', tup', lst', ownL, callF, callP, lenP, absP, maxP, minP, intP, bytesP, octs, rangeP, listP, baP, lenO, bytesO, retO, appL, appB, augI, augO, item, itemP, slc, sliceP, pI, pN, rev, meth, findP, joinP, byts, putT, tN, tT, tNil, tCons, putS, sets, for', comp', dkI, dkSet, dkNE, dkPop, dkApp, retDk, intsOf, dget, dNil, dCons, seek, skip, never, St.set, isFresh, lim, V.free, frees, V.isNone, V.isB, inI, inB, lz', lt', uz', ut', nc', nn']
    refine ⟨by trivial, by trivial, 6, d', rfl, by decide, by decide, rfl, hd'.mono (by simp; lia), fun r' d₂ h0' h1' hd₂ ht₂ => ?_⟩
    dsimp only
    rw [iter_rng ⟨h0', by lia⟩]
    refine ⟨trivial, ?_⟩
    rw [show inner Γ__law_fits_right_2 [0] ⟨[some .deck, some (.byt P), none], .fresh, some d₂⟩ = ⟨[some .deck, none], .fresh, some d₂⟩ from rfl]
    refine compL_any (fun k st => ∃ o d'', st = ⟨[some .deck, o], .fresh, some d''⟩ ∧ Dk (d'.turn + 1 + k) d'') (fun x => ∃ c : UInt8, x = .byt [c]) 7 _ _ [] 0 _ (by simp; lia) ?_ (by simp; lia) ⟨_, _, rfl, hd₂.mono (by lia)⟩ ?_
    · rintro y hy k st R hk ⟨o, d'', rfl, hd''⟩ hR
      dsimp only [seq, put, ret', iff', ite', cmpT, cmp, cmp2T, cmpP, cmpEq, cmpNe, cmpLt, cmpLe, cmpGt, cmpGe, cmpIs, cmpNot, cmpIn, rd, rdO, cst, bin, binP, binAdd, binSub, binMul, binDiv, binMod, binAnd, binPow, neg, notE, notT, andT, orT, iteT, tt, vB, vOf, andE, orE, cons', nil', tup', lst', ownL, callF, callP, lenP, absP, maxP, minP, intP, bytesP, octs, rangeP, listP, baP, lenO, bytesO, retO, appL, appB, augI, augO, item, itemP, slc, sliceP, pI, pN, rev, meth, findP, joinP, byts, putT, tN, tT, tNil, tCons, putS, sets, for', comp', dkI, dkSet, dkNE, dkPop, dkApp, retDk, intsOf, dget, dNil, dCons, seek, skip, never, St.set, isFresh, lim, V.free, frees, V.isNone, V.isB, inI, inB, lz', lt', uz', ut', nc', nn']
      have := hd''.hi
      refine ⟨by decide, by trivial, _, d'', rfl, by simp, by simp, ?_, rfl, hd''.mono (by lia), fun x hx d₃ hd₃ ht₃ => ?_⟩
      · intro x hx
        simp only [List.mem_cons, List.not_mem_nil, or_false] at hx
        rcases hx with rfl | rfl | rfl | rfl <;> rfl
      · refine hR x _ ?_ ⟨_, d₃, rfl, hd₃.mono (by lia)⟩
        simp only [List.mem_cons, List.not_mem_nil, or_false] at hx
        rcases hx with rfl | rfl | rfl | rfl <;> exact ⟨_, rfl⟩
    · rintro ys st hl' hy ⟨o, d'', rfl, hd''⟩
      simp only [List.length_map, List.length_range] at hl'
      dsimp only [List.nil_append, seq, put, ret', iff', ite', cmpT, cmp, cmp2T, cmpP, cmpEq, cmpNe, cmpLt, cmpLe, cmpGt, cmpGe, cmpIs, cmpNot, cmpIn, rd, rdO, cst, bin, binP, binAdd, binSub, binMul, binDiv, binMod, binAnd, binPow, neg, notE, notT, andT, orT, iteT, tt, vB, vOf, andE, orE, cons', nil', tup', lst', ownL, callF, callP, lenP, absP, maxP, minP, intP, bytesP, octs, rangeP, listP, baP, lenO, bytesO, retO, appL, appB, augI, augO, item, itemP, slc, sliceP, pI, pN, rev, meth, findP, joinP, byts, putT, tN, tT, tNil, tCons, putS, sets, for', comp', dkI, dkSet, dkNE, dkPop, dkApp, retDk, intsOf, dget, dNil, dCons, seek, skip, never, St.set, isFresh, lim, V.free, frees, V.isNone, V.isB, inI, inB, lz', lt', uz', ut', nc', nn']
      refine ⟨trivial, join1 ys hy _ fun O bs' hO hj' hs' => ⟨by lia, ?_⟩⟩
      rw [hj']
      show t__law_fits_right_2 _ _ _ _ ⟨[some .deck, some (.byt P), some (.byt O)], .fresh, some d''⟩ _
      unfold t__law_fits_right_2
      dsimp only [seq, put, ret', iff', ite', cmpT, cmp, cmp2T, cmpP, cmpEq, cmpNe, cmpLt, cmpLe, cmpGt, cmpGe, cmpIs, cmpNot, cmpIn, rd, rdO, cst, bin, binP, binAdd, binSub, binMul, binDiv, binMod, binAnd, binPow, neg, notE, notT, andT, orT, iteT, tt, vB, vOf, andE, orE, cons', nil', tup', lst', ownL, callF, callP, lenP, absP, maxP, minP, intP, bytesP, octs, rangeP, listP, baP, lenO, bytesO, retO, appL, appB, augI, augO, item, itemP, slc, sliceP, pI, pN, rev, meth, findP, joinP, byts, putT, tN, tT, tNil, tCons, putS, sets, for', comp', dkI, dkSet, dkNE, dkPop, dkApp, retDk, intsOf, dget, dNil, dCons, seek, skip, never, St.set, isFresh, lim, V.free, frees, V.isNone, V.isB, inI, inB, lz', lt', uz', ut', nc', nn']
      refine ⟨by trivial, P, O, rfl, by lia, by lia, ?_⟩
      cases hf : fitsR P O with
      | true =>
        refine ⟨by trivial, P, O, rfl, show P.length ≤ 5 by lia, by lia, ?_⟩
        rw [hf]
        exact ⟨by trivial, h _⟩
      | false =>
        refine ⟨by trivial, P, O, rfl, show P.length ≤ 5 by lia, by lia, ?_⟩
        rw [hf]
        exact ⟨by trivial, h _⟩
end

section
noncomputable def scanF (w other : List UInt8) : Nat → List UInt8 → List UInt8 → List UInt8
  | 0, _, O => O
  | n + 1, L, O => if L.take w.length = w then other ++ scanF w other n (L.drop w.length) (O.drop w.length) else match O with
    | [] => []
    | d :: O' => d :: scanF w other n (L.drop 1) O'
theorem scanF_succ (w other : List UInt8) (n : Nat) (L O : List UInt8) : scanF w other (n + 1) L O = if L.take w.length = w then other ++ scanF w other n (L.drop w.length) (O.drop w.length) else match O with
    | [] => []
    | d :: O' => d :: scanF w other n (L.drop 1) O' := by rw [scanF.eq_def]
theorem scanF_fuel {w other : List UInt8} (hw : w ≠ []) : ∀ (n m : Nat) (L O : List UInt8), L.length = O.length → O.length ≤ n → O.length ≤ m → scanF w other n L O = scanF w other m L O := by
  have h0 : ∀ (m : Nat) (L : List UInt8), L.length = 0 → scanF w other m L [] = [] := by
    intro m L hL
    cases m with
    | zero => rfl
    | succ m =>
      have : L = [] := List.length_eq_zero_iff.mp hL
      subst this
      unfold scanF
      rw [if_neg (by simp; exact fun e => hw e)]
  intro n
  induction n with
  | zero =>
    intro m L O hl hn hm
    have : O = [] := List.length_eq_zero_iff.mp (by lia)
    subst this
    rw [h0 m L (by simpa using hl)]; rfl
  | succ n ih =>
    intro m L O hl hn hm
    cases m with
    | zero =>
      have : O = [] := List.length_eq_zero_iff.mp (by lia)
      subst this
      rw [h0 _ L (by simpa using hl)]; rfl
    | succ m =>
      unfold scanF
      have hwl : 0 < w.length := List.length_pos_iff.mpr hw
      by_cases h : L.take w.length = w
      · rw [if_pos h, if_pos h, ih m]
        · rw [List.length_drop, List.length_drop, hl]
        · rw [List.length_drop]; lia
        · rw [List.length_drop]; lia
      · rw [if_neg h, if_neg h]
        cases O with
        | nil => rfl
        | cons d O' =>
          simp only [List.length_cons] at hl hn hm
          dsimp only
          rw [ih m]
          · rw [List.length_drop]; lia
          · lia
          · lia
noncomputable def scan (w other L O : List UInt8) : List UInt8 := scanF w other O.length L O
theorem scan_hit {w other L O : List UInt8} (hw : w ≠ []) (hl : L.length = O.length) (h : L.take w.length = w) : scan w other L O = other ++ scan w other (L.drop w.length) (O.drop w.length) := by
  have hwl : 0 < w.length := List.length_pos_iff.mpr hw
  have hle : w.length ≤ L.length := by rw [← h, List.length_take]; lia
  obtain ⟨n, hn⟩ : ∃ n, O.length = n + 1 := ⟨O.length - 1, by lia⟩
  unfold scan
  rw [hn, scanF_succ, if_pos h, scanF_fuel hw n]
  · rw [List.length_drop, List.length_drop, hl]
  · rw [List.length_drop]; lia
  · exact Nat.le_refl _
theorem scan_miss {w other L O' : List UInt8} {c d : UInt8} (h : (c :: L).take w.length ≠ w) : scan w other (c :: L) (d :: O') = d :: scan w other L O' := by
  unfold scan
  rw [List.length_cons, scanF_succ, if_neg h]
  rfl
theorem scan_nil {w other : List UInt8} : scan w other [] [] = [] := rfl
theorem scan_none {w other : List UInt8} : ∀ (L O : List UInt8), L.length = O.length → (∀ i, i < L.length → (L.drop i).take w.length ≠ w) → scan w other L O = O
  | [], [], _, _ => rfl
  | c :: L, d :: O, hl, h => by
    rw [scan_miss (h 0 (by simp)), scan_none L O (by simpa using hl) fun i hi => h (i + 1) (by simpa using hi)]
  | [], d :: O, hl, _ => by simp at hl
  | c :: L, [], hl, _ => by simp at hl
theorem scan_skip {w other : List UInt8} (hw : w ≠ []) : ∀ (j : Nat) (L O : List UInt8), L.length = O.length → j ≤ L.length → (∀ i, i < j → (L.drop i).take w.length ≠ w) → (L.drop j).take w.length = w →
    scan w other L O = O.take j ++ other ++ scan w other (L.drop (j + w.length)) (O.drop (j + w.length))
  | 0, L, O, hl, _, _, h => by
    rw [scan_hit hw hl h]; simp
  | j + 1, c :: L, d :: O, hl, hj, hn, h => by
    rw [scan_miss (hn 0 (by lia)), scan_skip hw j L O (by simpa using hl) (by simpa using hj) (fun i hi => hn (i + 1) (by lia)) h]
    rw [show j + 1 + w.length = (j + w.length) + 1 by lia]
    rfl
  | j + 1, [], O, hl, hj, _, _ => by simp at hj
  | j + 1, c :: L, [], hl, _, _, _ => by simp at hl

theorem ext_iff (b w : List UInt8) (i : Nat) : (b.toArray.extract i (i + w.toArray.size) == w.toArray) = decide ((b.drop i).take w.length = w) := by
  rw [Bool.eq_iff_iff, beq_iff_eq, decide_eq_true_eq]
  rw [← Array.toList_inj, Array.toList_extract]
  simp [List.extract]
theorem findV_spec (b w : List UInt8) (hw : w ≠ []) (a : Nat) :
    (∃ p : Nat, findV b.toArray w.toArray a = p ∧ a ≤ p ∧ p + w.length ≤ b.length ∧ (b.drop p).take w.length = w ∧ ∀ i, a ≤ i → i < p → (b.drop i).take w.length ≠ w) ∨
    (findV b.toArray w.toArray a = -1 ∧ ∀ i, a ≤ i → i < b.length → (b.drop i).take w.length ≠ w) := by
  have hwl : 0 < w.length := List.length_pos_iff.mpr hw
  have far : ∀ i, ¬ i + w.length ≤ b.length → (b.drop i).take w.length ≠ w := by
    intro i hi e
    have := congrArg List.length e
    rw [List.length_take, List.length_drop] at this
    lia
  unfold findV
  by_cases hs : ((b.toArray.size : Int) - (a : Int) < (w.toArray.size : Int))
  · rw [if_pos hs]
    right
    refine ⟨rfl, fun i h1 h2 => far i ?_⟩
    simp only [List.size_toArray] at hs
    lia
  · rw [if_neg hs]
    simp only [List.size_toArray] at hs
    rw [Int.toNat_natCast]
    unfold Builtin.Bytes.find?
    simp only [ext_iff]
    cases hf : (((List.range (b.toArray.size + 1 - (a + w.toArray.size))).map (· + a)).find? fun i => decide ((b.drop i).take w.length = w)) with
    | none =>
      right
      refine ⟨rfl, fun i h1 h2 e => ?_⟩
      by_cases hi : i + w.length ≤ b.length
      · have := List.find?_eq_none.mp hf i (List.mem_map.mpr ⟨i - a, List.mem_range.mpr (by simp only [List.size_toArray]; lia), by lia⟩)
        simp [e] at this
      · exact far i hi e
    | some p =>
      left
      rw [List.find?_map] at hf
      obtain ⟨q, hq, rfl⟩ := Option.map_eq_some_iff.mp hf
      rw [List.find?_range_eq_some] at hq
      obtain ⟨h1, h2, h3⟩ := hq
      have h2' := List.mem_range.mp h2
      simp only [List.size_toArray] at h2'
      refine ⟨q + a, rfl, by lia, by lia, by simpa using h1, fun i hi1 hi2 => ?_⟩
      have := h3 (i - a) (by lia)
      simpa [show i - a + a = i by lia] using this
end

section
theorem foldP_len (f : Bool) (b : List UInt8) : (foldP f b).length = b.length := by unfold foldP; split <;> simp
noncomputable def replP (w o : List UInt8) (f : Bool) (O : List UInt8) : List UInt8 := if w = [] then O else scan (foldP f w) o (foldP f O) O
noncomputable def Replaced : Spec := fun ds dk Q => ∃ (O w o : List UInt8) (l : Option (List UInt8)), ds = [.byt O, .lst (.byt w :: .byt o :: (match l with | none => [] | some l => [.byt l]))] ∧ O.length ≤ 50 ∧ w.length ≤ 10 ∧ o.length ≤ 10 ∧ (l = none ∨ l = some [105] ∨ l = some [103]) ∧
  Q (.byt (replP w o (l == some [105]) O)) dk

section
variable {O W o L : List UInt8} (hW : W ≠ []) (hO : O.length ≤ 50) (hw : W.length ≤ 10) (ho : o.length ≤ 10) (hL : L.length = O.length) (rest : List V) (x1 : V) (x2 : Option V) (dk : Option Deck) (total : List UInt8) (Q : Fl → St → Prop)
include hW hO hw ho hL
abbrev rst (O o W L : List UInt8) (x1 : V) (x2 : Option V) (rest : List V) (dk : Option Deck) (a : Nat) (p : Int) (acc : List UInt8) : St :=
  ⟨[some (.byt O), some (.lst (x1 :: .byt o :: rest)), x2, some (.byt W), some (.byt L), some .own, some (.int a), some (.int p)], .live (.byt acc), dk⟩
theorem loop_repl (hQ : ∀ a acc, acc ++ O.drop a = total → acc.length ≤ 11 * a → a ≤ O.length → Q .next (rst O o W L x1 x2 rest dk a (-1) acc)) :
    ∀ (k a : Nat) (acc : List UInt8), acc ++ scan W o (L.drop a) (O.drop a) = total → acc.length ≤ 11 * a → a ≤ O.length → O.length - a + 1 ≤ k →
    whileN (cmpT .GtE (rd 7) (cst (.int 0))) (b_format_replaced_1 Folded) k (rst O o W L x1 x2 rest dk a (findV L.toArray W.toArray a) acc) Q := by
  intro k
  induction k with
  | zero => intro a acc _ _ _ h; lia
  | succ k ih =>
    intro a acc ht hl ha hk
    have hwl : 0 < W.length := List.length_pos_iff.mpr hW
    unfold whileN
    rcases findV_spec L W hW a with ⟨p, hp, p1, p2, p3, p4⟩ | ⟨hp, hn⟩
    · rw [hp]
      dsimp only [rst, seq, put, ret', iff', ite', cmpT, cmp, cmp2T, cmpP, cmpEq, cmpNe, cmpLt, cmpLe, cmpGt, cmpGe, cmpIs, cmpNot, cmpIn, rd, rdO, cst, bin, binP, binAdd, binSub, binMul, binDiv, binMod, binAnd, binPow, neg, notE, notT, andT, orT, iteT, tt, vB, vOf, andE, orE, cons', nil', tup', lst', ownL, callF, callP, lenP, absP, maxP, minP, intP, bytesP, octs, rangeP, listP, baP, lenO, bytesO, retO, appL, appB, augI, augO, item, itemP, slc, sliceP, pI, pN, rev, meth, findP, joinP, byts, putT, tN, tT, tNil, tCons, putS, sets, for', iterOf, comp', dkI, dkSet, dkNE, dkPop, dkApp, retDk, intsOf, dget, dNil, dCons, seek, skip, never, St.set, isFresh, lim, V.free, frees, V.isNone, V.isB, inI, inB, lz', lt', uz', ut', nc', nn']
      have : decide (((p : Nat) : Int) ≥ 0) = true := decide_eq_true (by lia)
      rw [this]
      unfold b_format_replaced_1
      dsimp only [seq, put, ret', iff', ite', cmpT, cmp, cmp2T, cmpP, cmpEq, cmpNe, cmpLt, cmpLe, cmpGt, cmpGe, cmpIs, cmpNot, cmpIn, rd, rdO, cst, bin, binP, binAdd, binSub, binMul, binDiv, binMod, binAnd, binPow, neg, notE, notT, andT, orT, iteT, tt, vB, vOf, andE, orE, cons', nil', tup', lst', ownL, callF, callP, lenP, absP, maxP, minP, intP, bytesP, octs, rangeP, listP, baP, lenO, bytesO, retO, appL, appB, augI, augO, item, itemP, slc, sliceP, pI, pN, rev, meth, findP, joinP, byts, putT, tN, tT, tNil, tCons, putS, sets, for', iterOf, comp', dkI, dkSet, dkNE, dkPop, dkApp, retDk, intsOf, dget, dNil, dCons, seek, skip, never, St.set, isFresh, lim, V.free, frees, V.isNone, V.isB, inI, inB, lz', lt', uz', ut', nc', nn']
      refine ⟨by lia, ⟨by decide, by decide⟩, ?_⟩
      have hcut : cut O (some (a : Int)) (some (p : Int)) = (O.drop a).take (p - a) := cut_mid O a p
      have hcl : ((O.drop a).take (p - a)).length = p - a := by rw [List.length_take, List.length_drop]; lia
      show (cut O (some (a : Int)) (some (p : Int))).length + o.length ≤ 16777216 ∧ _
      rw [hcut]
      have hacc : (acc ++ ((O.drop a).take (p - a) ++ o)).length ≤ 11 * (p + W.length) := by
        rw [List.length_append, List.length_append, hcl]; lia
      have hacc' : acc.length + ((O.drop a).take (p - a) ++ o).length ≤ 1000 := by
        rw [List.length_append, hcl]; lia
      refine ⟨by lia, by lia, ?_⟩
      refine ⟨by rw [List.length_append]; lia, ?_⟩
      have hs : decide (((acc ++ ((O.drop a).take (p - a) ++ o)).length : Int) > 100000) = false := decide_eq_false (by rw [List.length_append]; lia)
      rw [hs]
      refine ⟨by lia, trivial, by lia, ?_⟩
      rw [show ((p : Nat) : Int) + ((W.length : Nat) : Int) = ((p + W.length : Nat) : Int) by lia]
      refine ih (p + W.length) _ ?_ hacc (by lia) (by lia)
      rw [← ht]
      have e := scan_skip (other := o) hW (p - a) (L.drop a) (O.drop a) (by rw [List.length_drop, List.length_drop, hL]) (by rw [List.length_drop]; lia) (fun i hi => by
        rw [List.drop_drop]; exact p4 (a + i) (by lia) (by lia)) (by rw [List.drop_drop, show a + (p - a) = p by lia]; exact p3)
      rw [e, List.drop_drop, List.drop_drop, show a + (p - a + W.length) = p + W.length by lia]
      simp only [List.append_assoc]
    · rw [hp]
      dsimp only [rst, seq, put, ret', iff', ite', cmpT, cmp, cmp2T, cmpP, cmpEq, cmpNe, cmpLt, cmpLe, cmpGt, cmpGe, cmpIs, cmpNot, cmpIn, rd, rdO, cst, bin, binP, binAdd, binSub, binMul, binDiv, binMod, binAnd, binPow, neg, notE, notT, andT, orT, iteT, tt, vB, vOf, andE, orE, cons', nil', tup', lst', ownL, callF, callP, lenP, absP, maxP, minP, intP, bytesP, octs, rangeP, listP, baP, lenO, bytesO, retO, appL, appB, augI, augO, item, itemP, slc, sliceP, pI, pN, rev, meth, findP, joinP, byts, putT, tN, tT, tNil, tCons, putS, sets, for', iterOf, comp', dkI, dkSet, dkNE, dkPop, dkApp, retDk, intsOf, dget, dNil, dCons, seek, skip, never, St.set, isFresh, lim, V.free, frees, V.isNone, V.isB, inI, inB, lz', lt', uz', ut', nc', nn']
      have : decide ((-1 : Int) ≥ 0) = false := by decide
      rw [this]
      refine hQ a acc ?_ hl ha
      rw [← ht, scan_none _ _ (by rw [List.length_drop, List.length_drop, hL]) fun i hi => ?_]
      rw [List.length_drop] at hi
      rw [List.drop_drop]; exact hn (a + i) (by lia) (by lia)
end

theorem repl_tail {O w o : List UInt8} {f : Bool} {rest : List V} {dk : Option Deck} {Q : V → Option Deck → Prop} (hw0 : w ≠ []) (hO : O.length ≤ 50) (hw : w.length ≤ 10) (ho : o.length ≤ 10) (h : Q (.byt (replP w o f O)) dk) :
    t_format_replaced_2 Folded ⟨[some (.byt O), some (.lst (.byt w :: .byt o :: rest)), some (.bool f), none, none, none, none, none], .fresh, dk⟩ (fin Q) := by
  unfold t_format_replaced_2
  dsimp only [List.reverse_cons, List.reverse_nil, List.nil_append, List.cons_append, seq, put, ret', iff', ite', cmpT, cmp, cmp2T, cmpP, cmpEq, cmpNe, cmpLt, cmpLe, cmpGt, cmpGe, cmpIs, cmpNot, cmpIn, rd, rdO, cst, bin, binP, binAdd, binSub, binMul, binDiv, binMod, binAnd, binPow, neg, notE, notT, andT, orT, iteT, tt, vB, vOf, andE, orE, cons', nil', tup', lst', ownL, callF, callP, lenP, absP, maxP, minP, intP, bytesP, octs, rangeP, listP, baP, lenO, bytesO, retO, appL, appB, augI, augO, item, itemP, slc, sliceP, pI, pN, rev, meth, findP, joinP, byts, putT, tN, tT, tNil, tCons, putS, sets, for', iterOf, comp', dkI, dkSet, dkNE, dkPop, dkApp, retDk, intsOf, dget, dNil, dCons, seek, skip, never, St.set, isFresh, lim, V.free, frees, V.isNone, V.isB, inI, inB, lz', lt', uz', ut', nc', nn']
  refine ⟨⟨by decide, by decide⟩, ?_⟩
  refine ⟨by trivial, w, f, rfl, by lia, by trivial, O, f, rfl, by lia, by decide, by trivial, ?_⟩
  unfold t_format_replaced_3
  dsimp only [List.reverse_cons, List.reverse_nil, List.nil_append, List.cons_append, seq, put, ret', iff', ite', cmpT, cmp, cmp2T, cmpP, cmpEq, cmpNe, cmpLt, cmpLe, cmpGt, cmpGe, cmpIs, cmpNot, cmpIn, rd, rdO, cst, bin, binP, binAdd, binSub, binMul, binDiv, binMod, binAnd, binPow, neg, notE, notT, andT, orT, iteT, tt, vB, vOf, andE, orE, cons', nil', tup', lst', ownL, callF, callP, lenP, absP, maxP, minP, intP, bytesP, octs, rangeP, listP, baP, lenO, bytesO, retO, appL, appB, augI, augO, item, itemP, slc, sliceP, pI, pN, rev, meth, findP, joinP, byts, putT, tN, tT, tNil, tCons, putS, sets, for', iterOf, comp', dkI, dkSet, dkNE, dkPop, dkApp, retDk, intsOf, dget, dNil, dCons, seek, skip, never, St.set, isFresh, lim, V.free, frees, V.isNone, V.isB, inI, inB, lz', lt', uz', ut', nc', nn']
  refine ⟨trivial, by decide, by trivial, ?_⟩
  show t_format_replaced_4 Folded ⟨[some (.byt O), some (.lst (.byt w :: .byt o :: rest)), some (.bool f), some (.byt (foldP f w)), some (.byt (foldP f O)), some .own, some (.int 0), none], .live (.byt []), dk⟩ _
  unfold t_format_replaced_4
  dsimp only [seq, put, ret', iff', ite', cmpT, cmp, cmp2T, cmpP, cmpEq, cmpNe, cmpLt, cmpLe, cmpGt, cmpGe, cmpIs, cmpNot, cmpIn, rd, rdO, cst, bin, binP, binAdd, binSub, binMul, binDiv, binMod, binAnd, binPow, neg, notE, notT, andT, orT, iteT, tt, vB, vOf, andE, orE, cons', nil', tup', lst', ownL, callF, callP, lenP, absP, maxP, minP, intP, bytesP, octs, rangeP, listP, baP, lenO, bytesO, retO, appL, appB, augI, augO, item, itemP, slc, sliceP, pI, pN, rev, meth, findP, joinP, byts, putT, tN, tT, tNil, tCons, putS, sets, for', iterOf, comp', dkI, dkSet, dkNE, dkPop, dkApp, retDk, intsOf, dget, dNil, dCons, seek, skip, never, St.set, isFresh, lim, V.free, frees, V.isNone, V.isB, inI, inB, lz', lt', uz', ut', nc', nn']
  refine ⟨trivial, by decide, ?_⟩
  unfold t_format_replaced_5 w_format_replaced_1
  dsimp only [seq, while']
  have hw1 : foldP f w ≠ [] := fun e => hw0 (by
    have := congrArg List.length e
    rw [foldP_len] at this
    exact List.length_eq_zero_iff.mp this)
  refine ⟨60, loop_repl (O := O) (W := foldP f w) (o := o) (L := foldP f O) hw1 hO (by rw [foldP_len]; exact hw) ho (foldP_len f O) rest (.byt w) (some (.bool f)) dk (replP w o f O) _ (fun a acc h1 h2 h3 => ?_) 60 0 [] ?_ (by simp) (Nat.zero_le _) (by lia)⟩
  · dsimp only [rst]
    unfold t_format_replaced_6
    dsimp only [seq, put, ret', iff', ite', cmpT, cmp, cmp2T, cmpP, cmpEq, cmpNe, cmpLt, cmpLe, cmpGt, cmpGe, cmpIs, cmpNot, cmpIn, rd, rdO, cst, bin, binP, binAdd, binSub, binMul, binDiv, binMod, binAnd, binPow, neg, notE, notT, andT, orT, iteT, tt, vB, vOf, andE, orE, cons', nil', tup', lst', ownL, callF, callP, lenP, absP, maxP, minP, intP, bytesP, octs, rangeP, listP, baP, lenO, bytesO, retO, appL, appB, augI, augO, item, itemP, slc, sliceP, pI, pN, rev, meth, findP, joinP, byts, putT, tN, tT, tNil, tCons, putS, sets, for', iterOf, comp', dkI, dkSet, dkNE, dkPop, dkApp, retDk, intsOf, dget, dNil, dCons, seek, skip, never, St.set, isFresh, lim, V.free, frees, V.isNone, V.isB, inI, inB, lz', lt', uz', ut', nc', nn']
    refine ⟨by lia, by lia, ?_⟩
    rw [cut_from, h1]
    refine ⟨?_, by trivial, h⟩
    have := congrArg List.length h1
    rw [List.length_append, List.length_drop] at this
    rw [List.length_drop]; lia
  · unfold replP
    rw [if_neg hw0]; rfl
theorem fReplaced {ds dk Q} (h : Replaced ds dk Q) : entry Γ_format_replaced 2 (sem_format_replaced Folded) ds dk Q := by
  obtain ⟨O, w, o, l, rfl, hO, hw, ho, hl, h⟩ := h
  refine ⟨rfl, ?_⟩
  have main : ∀ (rest : List V) (f : Bool), rest.length ≤ 1 → (l == some [105]) = f → (∀ fi : Fl → St → Prop, t_format_replaced_2 Folded ⟨[some (.byt O), some (.lst (.byt w :: .byt o :: rest)), some (.bool f), none, none, none, none, none], .fresh, dk⟩ fi →
      t_format_replaced_1 Folded ⟨[some (.byt O), some (.lst (.byt w :: .byt o :: rest)), none, none, none, none, none, none], .fresh, dk⟩ fi) →
      t_format_replaced_0 Folded ⟨[some (.byt O), some (.lst (.byt w :: .byt o :: rest)), none, none, none, none, none, none], .fresh, dk⟩ (fin Q) := by
    intro rest f hr hf hgo
    unfold t_format_replaced_0
    dsimp only [seq, put, ret', iff', ite', cmpT, cmp, cmp2T, cmpP, cmpEq, cmpNe, cmpLt, cmpLe, cmpGt, cmpGe, cmpIs, cmpNot, cmpIn, rd, rdO, cst, bin, binP, binAdd, binSub, binMul, binDiv, binMod, binAnd, binPow, neg, notE, notT, andT, orT, iteT, tt, vB, vOf, andE, orE, cons', nil', tup', lst', ownL, callF, callP, lenP, absP, maxP, minP, intP, bytesP, octs, rangeP, listP, baP, lenO, bytesO, retO, appL, appB, augI, augO, item, itemP, slc, sliceP, pI, pN, rev, meth, findP, joinP, byts, putT, tN, tT, tNil, tCons, putS, sets, for', iterOf, comp', dkI, dkSet, dkNE, dkPop, dkApp, retDk, intsOf, dget, dNil, dCons, seek, skip, never, St.set, isFresh, lim, V.free, frees, V.isNone, V.isB, inI, inB, lz', lt', uz', ut', nc', nn']
    refine ⟨by lia, ?_⟩
    have : decide (((rest.length + 1 + 1 : Nat) : Int) < 2) = false := decide_eq_false (by lia)
    rw [this]
    refine ⟨⟨by decide, by decide⟩, ?_⟩
    rw [hf] at h
    by_cases hw0 : w = []
    · subst hw0
      have e : replP [] o f O = O := if_pos rfl
      rw [e] at h
      exact ⟨by trivial, h⟩
    · have : (w == []) = false := by simpa using hw0
      show (match (w == []) with | true => _ | false => _)
      rw [this]
      exact hgo _ (repl_tail hw0 hO hw ho h)
  rcases hl with rfl | rfl | rfl
  · refine main [] false (by simp) rfl fun fi hk => ?_
    unfold t_format_replaced_1
    dsimp only [seq, put, ret', iff', ite', cmpT, cmp, cmp2T, cmpP, cmpEq, cmpNe, cmpLt, cmpLe, cmpGt, cmpGe, cmpIs, cmpNot, cmpIn, rd, rdO, cst, bin, binP, binAdd, binSub, binMul, binDiv, binMod, binAnd, binPow, neg, notE, notT, andT, orT, iteT, tt, vB, vOf, andE, orE, cons', nil', tup', lst', ownL, callF, callP, lenP, absP, maxP, minP, intP, bytesP, octs, rangeP, listP, baP, lenO, bytesO, retO, appL, appB, augI, augO, item, itemP, slc, sliceP, pI, pN, rev, meth, findP, joinP, byts, putT, tN, tT, tNil, tCons, putS, sets, for', iterOf, comp', dkI, dkSet, dkNE, dkPop, dkApp, retDk, intsOf, dget, dNil, dCons, seek, skip, never, St.set, isFresh, lim, V.free, frees, V.isNone, V.isB, inI, inB, lz', lt', uz', ut', nc', nn']
    exact ⟨by decide, hk⟩
  · refine main [.byt [105]] true (by simp) rfl fun fi hk => ?_
    unfold t_format_replaced_1
    dsimp only [seq, put, ret', iff', ite', cmpT, cmp, cmp2T, cmpP, cmpEq, cmpNe, cmpLt, cmpLe, cmpGt, cmpGe, cmpIs, cmpNot, cmpIn, rd, rdO, cst, bin, binP, binAdd, binSub, binMul, binDiv, binMod, binAnd, binPow, neg, notE, notT, andT, orT, iteT, tt, vB, vOf, andE, orE, cons', nil', tup', lst', ownL, callF, callP, lenP, absP, maxP, minP, intP, bytesP, octs, rangeP, listP, baP, lenO, bytesO, retO, appL, appB, augI, augO, item, itemP, slc, sliceP, pI, pN, rev, meth, findP, joinP, byts, putT, tN, tT, tNil, tCons, putS, sets, for', iterOf, comp', dkI, dkSet, dkNE, dkPop, dkApp, retDk, intsOf, dget, dNil, dCons, seek, skip, never, St.set, isFresh, lim, V.free, frees, V.isNone, V.isB, inI, inB, lz', lt', uz', ut', nc', nn']
    exact ⟨by decide, ⟨by decide, by decide⟩, ⟨by decide, by decide⟩, hk⟩
  · refine main [.byt [103]] false (by simp) rfl fun fi hk => ?_
    unfold t_format_replaced_1
    dsimp only [seq, put, ret', iff', ite', cmpT, cmp, cmp2T, cmpP, cmpEq, cmpNe, cmpLt, cmpLe, cmpGt, cmpGe, cmpIs, cmpNot, cmpIn, rd, rdO, cst, bin, binP, binAdd, binSub, binMul, binDiv, binMod, binAnd, binPow, neg, notE, notT, andT, orT, iteT, tt, vB, vOf, andE, orE, cons', nil', tup', lst', ownL, callF, callP, lenP, absP, maxP, minP, intP, bytesP, octs, rangeP, listP, baP, lenO, bytesO, retO, appL, appB, augI, augO, item, itemP, slc, sliceP, pI, pN, rev, meth, findP, joinP, byts, putT, tN, tT, tNil, tCons, putS, sets, for', iterOf, comp', dkI, dkSet, dkNE, dkPop, dkApp, retDk, intsOf, dget, dNil, dCons, seek, skip, never, St.set, isFresh, lim, V.free, frees, V.isNone, V.isB, inI, inB, lz', lt', uz', ut', nc', nn']
    exact ⟨by decide, ⟨by decide, by decide⟩, ⟨by decide, by decide⟩, hk⟩
end

section
noncomputable def accOf (b : List UInt8) : List V := b.map fun c => V.int (if (65 : Int) ≤ (c.toNat : Int) ∧ (c.toNat : Int) ≤ 90 then (c.toNat : Int) + 32 else (c.toNat : Int))
theorem accOf_octs (b : List UInt8) (R : List UInt8 → Prop) (h : R (b.map lowI)) : octs (accOf b) R := by
  unfold accOf
  refine octs_map b _ _ (fun c _ => ?_) ?_
  · have := c.toNat_lt
    split <;> lia
  · have e : (b.map fun c => (if (65 : Int) ≤ (c.toNat : Int) ∧ (c.toNat : Int) ≤ 90 then (c.toNat : Int) + 32 else (c.toNat : Int)).toNat.toUInt8) = b.map lowI := List.map_congr_left fun c _ => lowI_eq c
    rw [e]; exact h
theorem fold_comp (b : List UInt8) (dk : Option Deck) (Q : List V → St → Prop) (hb : b.length ≤ 100000) (h : ∀ o, Q (accOf b) ⟨[o], .fresh, dk⟩) :
    compL (tN 0) (tt true) (ite' (cmp2T .LtE .LtE (cst (.int 65)) (rd 0) (cst (.int 90))) (bin .Add (rd 0) (cst (.int 32))) (rd 0)) (b.map fun c => .int c.toNat) [] ⟨[none], .fresh, dk⟩ Q := by
  refine compL_map (fun st => ∃ o, st = ⟨[o], .fresh, dk⟩) (fun _ => true) (fun d => match d with | .int i => .int (if 65 ≤ i ∧ i ≤ 90 then i + 32 else i) | d => d) _ _ [] _ ?_ (by simp; lia) ⟨none, rfl⟩ ?_
  · rintro d hd st R ⟨o, rfl⟩ hR
    obtain ⟨c, hc, rfl⟩ := List.mem_map.mp hd
    dsimp only [seq, put, ret', iff', ite', cmpT, cmp, cmp2T, cmpP, cmpEq, cmpNe, cmpLt, cmpLe, cmpGt, cmpGe, cmpIs, cmpNot, cmpIn, rd, rdO, cst, bin, binP, binAdd, binSub, binMul, binDiv, binMod, binAnd, binPow, neg, notE, notT, andT, orT, iteT, tt, vB, vOf, andE, orE, cons', nil', tup', lst', ownL, callF, callP, lenP, absP, maxP, minP, intP, bytesP, octs, rangeP, listP, baP, lenO, bytesO, retO, appL, appB, augI, augO, item, itemP, slc, sliceP, pI, pN, rev, meth, findP, joinP, byts, putT, tN, tT, tNil, tCons, putS, sets, for', iterOf, comp', dkI, dkSet, dkNE, dkPop, dkApp, retDk, intsOf, dget, dNil, dCons, seek, skip, never, St.set, isFresh, lim, V.free, frees, V.isNone, V.isB, inI, inB, lz', lt', uz', ut', nc', nn']
    have hR' := hR ⟨[some (.int c.toNat)], .fresh, dk⟩ ⟨_, rfl⟩
    simp only [if_true] at hR'
    by_cases h1 : (65 : Int) ≤ (c.toNat : Int)
    · by_cases h2 : (c.toNat : Int) ≤ 90
      · rw [if_pos ⟨h1, h2⟩] at hR'; simp only [h1, h2, decide_true]; exact hR'
      · rw [if_neg (fun x => h2 x.2)] at hR'; simp only [h1, h2, decide_true, decide_false]; exact hR'
    · rw [if_neg (fun x => h1 x.1)] at hR'; simp only [h1, decide_false]; exact hR'
  · rintro st ⟨o, rfl⟩
    simp only [List.nil_append, filter_tt, List.map_map]
    exact h o
theorem listedB : ∀ (xs : List V) , (∀ x ∈ xs, ∃ c : List UInt8, x = .byt c ∧ c.length ≤ 2) → ∃ bs : List (List UInt8), xs = bs.map V.byt ∧ ∀ b ∈ bs, b.length ≤ 2
  | [], _ => ⟨[], rfl, fun _ h => nomatch h⟩
  | x :: xs, h => by
    obtain ⟨c, rfl, hc⟩ := h x List.mem_cons_self
    obtain ⟨bs, rfl, hb⟩ := listedB xs fun y hy => h y (List.mem_cons_of_mem _ hy)
    exact ⟨c :: bs, rfl, fun b hb' => by rcases List.mem_cons.mp hb' with rfl | hb'; exact hc; exact hb b hb'⟩
theorem joinB (xs : List V) (h : ∀ x ∈ xs, ∃ c : List UInt8, x = .byt c ∧ c.length ≤ 2) (R : List (List UInt8) → Prop) (hQ : ∀ (b : List UInt8) (bs : List (List UInt8)), b.length ≤ 2 * xs.length → joinL [] bs = b → (bs.map (·.length)).sum ≤ 2 * xs.length → R bs) : byts xs R := by
  obtain ⟨bs, rfl, hb⟩ := listedB xs h
  simp only [List.length_map] at hQ
  have e := sum_le bs id 2 hb
  simp only [List.map_id] at e
  have := byts_map bs id R (by rw [List.map_id]; exact hQ bs.flatten bs (by rw [List.length_flatten]; exact e) (joinL_flat bs) e)
  exact this

noncomputable def rrRest : Sx := seq (put 8 (andE (cmp .NotEq (rd 2) (cst (.byt []))) (cmp .Eq (rd 7) (rd 2)))) (seq (putS [5, 6] (tup' (cons' (bin .Add (rd 5) (ite' (vB (rd 8)) (rd 3) (slc (rd 1) (pI (rd 6)) (pI (bin .Add (rd 6) (cst (.int 1))))))) (cons' (bin .Add (rd 6) (ite' (vB (rd 8)) (callP lenP (cons' (rd 2) nil')) (cst (.int 1)))) nil')))) skip)
/-- what the scanning leaves -/
noncomputable def scanT (T o L O : List UInt8) : List UInt8 := if T = [] then O else scan T o L O
theorem scanT_hit {T o L O : List UInt8} (hT : T ≠ []) (hl : L.length = O.length) (h : L.take T.length = T) : scanT T o L O = o ++ scanT T o (L.drop T.length) (O.drop T.length) := by
  unfold scanT; rw [if_neg hT, if_neg hT]; exact scan_hit hT hl h
theorem scanT_miss {T o L O' : List UInt8} {c d : UInt8} (h : T = [] ∨ (c :: L).take T.length ≠ T) : scanT T o (c :: L) (d :: O') = d :: scanT T o L O' := by
  unfold scanT
  by_cases hT : T = []
  · rw [if_pos hT, if_pos hT]
  · rw [if_neg hT, if_neg hT]; exact scan_miss (by rcases h with h | h; exact absurd h hT; exact h)
noncomputable def letV : Option (List UInt8) → V
  | none => .none
  | some l => .byt l

section
variable {O T o : List UInt8} (l : Option (List UInt8)) (hl : l = none ∨ l = some [105] ∨ l = some [103]) (hO : O.length ≤ 20) (hT : T.length ≤ 5) (ho : o.length ≤ 5) (φ1 φ2 φ3 : Spec) (dk : Option Deck) (total : List UInt8) (Q : Fl → St → Prop)
include hl hO hT ho
abbrev rrst (O T o : List UInt8) (l : Option (List UInt8)) (dk : Option Deck) (F : List UInt8) (a : Nat) (x7 x8 : Option V) : St := ⟨[some .deck, some (.byt O), some (.byt T), some (.byt o), some (letV l), some (.byt F), some (.int a), x7, x8], .fresh, dk⟩
theorem loop_rr (hQ : ∀ x7 x8, Q .next (rrst O T o l dk total O.length x7 x8)) : ∀ (k a : Nat) (F : List UInt8) (x7 x8 : Option V), F ++ scanT T o ((foldP (l == some [105]) O).drop a) (O.drop a) = total → F.length ≤ 6 * a → a ≤ O.length → O.length - a + 1 ≤ k →
    whileN (cmpT .Lt (rd 6) (callP lenP (cons' (rd 1) nil'))) (b__law_replaced_right_1 φ1 φ2 φ3) k (rrst O T o l dk F a x7 x8) Q := by
  intro k
  induction k with
  | zero => intro a F x7 x8 _ _ _ h; lia
  | succ k ih =>
    intro a F x7 x8 ht hF ha hk
    unfold whileN
    dsimp only [rrst, seq, put, ret', iff', ite', cmpT, cmp, cmp2T, cmpP, cmpEq, cmpNe, cmpLt, cmpLe, cmpGt, cmpGe, cmpIs, cmpNot, cmpIn, rd, rdO, cst, bin, binP, binAdd, binSub, binMul, binDiv, binMod, binAnd, binPow, neg, notE, notT, andT, orT, iteT, tt, vB, vOf, andE, orE, cons', nil', tup', lst', ownL, callF, callP, lenP, absP, maxP, minP, intP, bytesP, octs, rangeP, listP, baP, lenO, bytesO, retO, appL, appB, augI, augO, item, itemP, slc, sliceP, pI, pN, rev, meth, findP, joinP, byts, putT, tN, tT, tNil, tCons, putS, sets, for', iterOf, comp', dkI, dkSet, dkNE, dkPop, dkApp, retDk, intsOf, dget, dNil, dCons, seek, skip, never, St.set, isFresh, lim, V.free, frees, V.isNone, V.isB, inI, inB, lz', lt', uz', ut', nc', nn']
    refine ⟨by lia, ?_⟩
    by_cases h : (a : Int) < (O.length : Int)
    · simp only [h, decide_true]
      have ha' : a < O.length := by lia
      have hcut : cut O (some (a : Int)) (some ((a : Int) + (T.length : Int))) = (O.drop a).take T.length := by
        rw [show (a : Int) + (T.length : Int) = ((a + T.length : Nat) : Int) by lia, cut_mid, show a + T.length - a = T.length by lia]
      have hcut1 : cut O (some (a : Int)) (some ((a : Int) + 1)) = (O.drop a).take 1 := by
        rw [show (a : Int) + 1 = ((a + 1 : Nat) : Int) by lia, cut_mid, show a + 1 - a = 1 by lia]
      show seq (put 7 (slc (rd 1) (pI (rd 6)) (pI (bin .Add (rd 6) (callP lenP (cons' (rd 2) nil')))))) (seq (put 7 (ite' (cmpT .Eq (rd 4) (cst (.byt [105]))) (callP bytesP (cons' (comp' Γ__law_replaced_right_2 [] (rd 7) (tN 0) (tt true) (ite' (cmp2T .LtE .LtE (cst (.int 65)) (rd 0) (cst (.int 90))) (bin .Add (rd 0) (cst (.int 32))) (rd 0))) nil')) (rd 7))) rrRest) _ _
      dsimp only [seq, put, ret', iff', ite', cmpT, cmp, cmp2T, cmpP, cmpEq, cmpNe, cmpLt, cmpLe, cmpGt, cmpGe, cmpIs, cmpNot, cmpIn, rd, rdO, cst, bin, binP, binAdd, binSub, binMul, binDiv, binMod, binAnd, binPow, neg, notE, notT, andT, orT, iteT, tt, vB, vOf, andE, orE, cons', nil', tup', lst', ownL, callF, callP, lenP, absP, maxP, minP, intP, bytesP, octs, rangeP, listP, baP, lenO, bytesO, retO, appL, appB, augI, augO, item, itemP, slc, sliceP, pI, pN, rev, meth, findP, joinP, byts, putT, tN, tT, tNil, tCons, putS, sets, for', iterOf, comp', dkI, dkSet, dkNE, dkPop, dkApp, retDk, intsOf, dget, dNil, dCons, seek, skip, never, St.set, isFresh, lim, V.free, frees, V.isNone, V.isB, inI, inB, lz', lt', uz', ut', nc', nn']
      refine ⟨by lia, by lia, ?_⟩
      rw [hcut]
      -- the rest of the turn
      have go : ∀ H : List UInt8, H = ((foldP (l == some [105]) O).drop a).take T.length →
          rrRest (rrst O T o l dk F a (some (.byt H)) x8) (fun fl st₂ => match fl with
            | .next => whileN (cmpT .Lt (rd 6) (callP lenP (cons' (rd 1) nil'))) (b__law_replaced_right_1 φ1 φ2 φ3) k st₂ Q
            | .ret d => Q (.ret d) st₂) := by
        intro H hH
        unfold rrRest
        have hfl : (foldP (l == some [105]) O).length = O.length := foldP_len _ _
        have step : ∀ b : Bool, b = (T != [] && H == T) → F ++ (if b then o else (O.drop a).take 1) ++ scanT T o ((foldP (l == some [105]) O).drop (a + (if b then T.length else 1))) (O.drop (a + (if b then T.length else 1))) = total ∧ a + (if b then T.length else 1) ≤ O.length ∧ (b = true → 0 < T.length) := by
          intro b hb
          cases b with
          | true =>
            have hb' : T ≠ [] ∧ H = T := by simpa using hb.symm
            have hTl : 0 < T.length := List.length_pos_iff.mpr hb'.1
            simp only [if_true]
            have hle : a + T.length ≤ O.length := by
              have := congrArg List.length (hH.symm.trans hb'.2)
              rw [List.length_take, List.length_drop, hfl] at this
              lia
            refine ⟨?_, hle, fun _ => hTl⟩
            rw [← ht, scanT_hit hb'.1 (by rw [List.length_drop, List.length_drop, hfl]) (hH.symm.trans hb'.2), List.drop_drop, List.drop_drop, List.append_assoc]
          | false =>
            simp only [Bool.false_eq_true, if_false]
            refine ⟨?_, by lia, (fun h => nomatch h)⟩
            have e1 := List.drop_eq_getElem_cons (l := O) ha'
            have e2 := List.drop_eq_getElem_cons (l := foldP (l == some [105]) O) (by rw [hfl]; exact ha')
            rw [← ht, e1, e2, scanT_miss, List.append_assoc]
            · rfl
            · have hb' : ¬ (T ≠ [] ∧ H = T) := by
                intro x
                have : (T != [] && H == T) = true := by simp [x.1, x.2]
                rw [this] at hb; cases hb
              by_cases hT0 : T = []
              · exact .inl hT0
              · refine .inr fun e => hb' ⟨hT0, ?_⟩
                rw [hH, e2]; exact e
        have fin2 : ∀ b : Bool, b = (T != [] && H == T) → (putS [5, 6] (tup' (cons' (bin .Add (rd 5) (ite' (vB (rd 8)) (rd 3) (slc (rd 1) (pI (rd 6)) (pI (bin .Add (rd 6) (cst (.int 1))))))) (cons' (bin .Add (rd 6) (ite' (vB (rd 8)) (callP lenP (cons' (rd 2) nil')) (cst (.int 1)))) nil')))) 
            (rrst O T o l dk F a (some (.byt H)) (some (.bool b))) (fun fl st₂ => match fl with
            | .next => whileN (cmpT .Lt (rd 6) (callP lenP (cons' (rd 1) nil'))) (b__law_replaced_right_1 φ1 φ2 φ3) k st₂ Q
            | .ret d => Q (.ret d) st₂) := by
          intro b hb
          obtain ⟨s1, s2, s3⟩ := step b hb
          cases b with
          | true =>
            simp only [if_true] at s1 s2
            have := s3 rfl
            dsimp only [rrst, List.reverse_cons, List.reverse_nil, List.nil_append, List.cons_append, seq, put, ret', iff', ite', cmpT, cmp, cmp2T, cmpP, cmpEq, cmpNe, cmpLt, cmpLe, cmpGt, cmpGe, cmpIs, cmpNot, cmpIn, rd, rdO, cst, bin, binP, binAdd, binSub, binMul, binDiv, binMod, binAnd, binPow, neg, notE, notT, andT, orT, iteT, tt, vB, vOf, andE, orE, cons', nil', tup', lst', ownL, callF, callP, lenP, absP, maxP, minP, intP, bytesP, octs, rangeP, listP, baP, lenO, bytesO, retO, appL, appB, augI, augO, item, itemP, slc, sliceP, pI, pN, rev, meth, findP, joinP, byts, putT, tN, tT, tNil, tCons, putS, sets, for', iterOf, comp', dkI, dkSet, dkNE, dkPop, dkApp, retDk, intsOf, dget, dNil, dCons, seek, skip, never, St.set, isFresh, lim, V.free, frees, V.isNone, V.isB, inI, inB, lz', lt', uz', ut', nc', nn']
            refine ⟨by lia, by lia, by decide, by trivial, ?_⟩
            rw [show (a : Int) + (T.length : Int) = ((a + T.length : Nat) : Int) by lia]
            exact ih (a + T.length) _ _ _ s1 (by rw [List.length_append]; lia) s2 (by lia)
          | false =>
            simp only [Bool.false_eq_true, if_false] at s1 s2
            have hl1 : ((O.drop a).take 1).length ≤ 1 := by rw [List.length_take]; lia
            dsimp only [rrst, List.reverse_cons, List.reverse_nil, List.nil_append, List.cons_append, seq, put, ret', iff', ite', cmpT, cmp, cmp2T, cmpP, cmpEq, cmpNe, cmpLt, cmpLe, cmpGt, cmpGe, cmpIs, cmpNot, cmpIn, rd, rdO, cst, bin, binP, binAdd, binSub, binMul, binDiv, binMod, binAnd, binPow, neg, notE, notT, andT, orT, iteT, tt, vB, vOf, andE, orE, cons', nil', tup', lst', ownL, callF, callP, lenP, absP, maxP, minP, intP, bytesP, octs, rangeP, listP, baP, lenO, bytesO, retO, appL, appB, augI, augO, item, itemP, slc, sliceP, pI, pN, rev, meth, findP, joinP, byts, putT, tN, tT, tNil, tCons, putS, sets, for', iterOf, comp', dkI, dkSet, dkNE, dkPop, dkApp, retDk, intsOf, dget, dNil, dCons, seek, skip, never, St.set, isFresh, lim, V.free, frees, V.isNone, V.isB, inI, inB, lz', lt', uz', ut', nc', nn']
            rw [hcut1]
            refine ⟨by lia, by lia, by decide, by trivial, ?_⟩
            rw [show (a : Int) + 1 = ((a + 1 : Nat) : Int) by lia]
            exact ih (a + 1) _ _ _ s1 (by rw [List.length_append]; lia) s2 (by lia)
        by_cases hT0 : T = []
        · have hb : (T != []) = false := by simp [hT0]
          have := fin2 false (by rw [hb]; rfl)
          dsimp only [seq, put, andE, cmp, cmpP, cmpEq, cmpNe, cmpLt, cmpLe, cmpGt, cmpGe, cmpIs, cmpNot, cmpIn, rd, cst, rrst, St.set, skip, List.getElem?_cons_zero, List.getElem?_cons_succ, List.set_cons_zero, List.set_cons_succ]
          rw [hb]
          exact this
        · have hb : (T != []) = true := by simp [hT0]
          have := fin2 (H == T) (by rw [hb]; rfl)
          dsimp only [seq, put, andE, cmp, cmpP, cmpEq, cmpNe, cmpLt, cmpLe, cmpGt, cmpGe, cmpIs, cmpNot, cmpIn, rd, cst, rrst, St.set, skip, List.getElem?_cons_zero, List.getElem?_cons_succ, List.set_cons_zero, List.set_cons_succ]
          rw [hb]
          exact this
      rcases hl with rfl | rfl | rfl
      · exact go _ rfl
      · show _ ∧ _
        refine ⟨trivial, ?_⟩
        rw [show ∀ lc, inner Γ__law_replaced_right_2 [] ⟨lc, .fresh, dk⟩ = ⟨[none], .fresh, dk⟩ from fun _ => rfl]
        have hlen : ((O.drop a).take T.length).length ≤ 20 := by rw [List.length_take, List.length_drop]; lia
        refine fold_comp _ dk _ (by lia) fun o' => ?_
        refine ⟨trivial, by unfold accOf; rw [List.length_map]; lia, ?_⟩
        refine accOf_octs _ _ ?_
        refine go _ ?_
        rw [show foldP ((some [105] : Option (List UInt8)) == some [105]) O = O.map lowI from rfl, ← List.map_drop, ← List.map_take]
      · exact go _ rfl
    · simp only [h, decide_false]
      have : a = O.length := by lia
      subst this
      rw [List.drop_length] at ht
      have e : scanT T o ((foldP (l == some [105]) O).drop O.length) [] = [] := by
        rw [List.drop_eq_nil_of_le (by rw [foldP_len]; exact Nat.le_refl _)]
        unfold scanT
        split <;> rfl
      rw [e, List.append_nil] at ht
      subst ht
      exact hQ _ _
end

theorem fReplacedRight {t : Int} {ds dk Q} (h : Right t ds dk Q) : entry Γ__law_replaced_right 1 (sem__law_replaced_right (Draw (t + 20)) (Pick (t + 20)) Replaced) ds dk Q := by
  obtain ⟨d, rfl, rfl, hd, h⟩ := h
  refine ⟨rfl, ?_⟩
  rw [show start Γ__law_replaced_right [.deck] (some d) = ⟨[some .deck, none, none, none, none, none, none, none, none], .fresh, some d⟩ from rfl]
  have hdt := hd.hi
  show t__law_replaced_right_0 _ _ _ _ _
  unfold t__law_replaced_right_0
  dsimp only [seq, put, ret', iff', ite', cmpT, cmp, cmp2T, cmpP, cmpEq, cmpNe, cmpLt, cmpLe, cmpGt, cmpGe, cmpIs, cmpNot, cmpIn, rd, rdO, cst, bin, binP, binAdd, binSub, binMul, binDiv, binMod, binAnd, binPow, neg, notE, notT, andT, orT, iteT, tt, vB, vOf, andE, orE, cons', nil', tup', lst', ownL, callF, callP, lenP, absP, maxP, minP, intP, bytesP, octs, rangeP, listP, baP, lenO, bytesO, retO, appL, appB, augI, augO, item, itemP, slc, sliceP, pI, pN, rev, meth, findP, joinP, byts, putT, tN, tT, tNil, tCons, putS, sets, for', comp', dkI, dkSet, dkNE, dkPop, dkApp, retDk, intsOf, dget, dNil, dCons, seek, skip, never, St.set, isFresh, lim, V.free, frees, V.isNone, V.isB, inI, inB, lz', lt', uz', ut', nc', nn']
  refine ⟨by trivial, by trivial, 6, d, rfl, by decide, by decide, rfl, hd.mono (by lia), fun r d₁ h0 h1 hd₁ ht₁ => ?_⟩
  dsimp only
  rw [iter_rng ⟨h0, by lia⟩]
  refine ⟨trivial, ?_⟩
  rw [show ∀ lc, inner Γ__law_replaced_right_1 [0] ⟨some .deck :: lc, .fresh, some d₁⟩ = ⟨[some .deck, none], .fresh, some d₁⟩ from fun _ => rfl]
  refine compL_any (fun k st => ∃ o d', st = ⟨[some .deck, o], .fresh, some d'⟩ ∧ Dk (d.turn + 1 + k) d') (fun x => ∃ c : List UInt8, x = .byt c ∧ c.length ≤ 2) 7 _ _ [] 0 _ (by simp; lia) ?_ (by simp; lia) ⟨_, _, rfl, hd₁.mono (by lia)⟩ ?_
  · rintro y hy k st R hk ⟨o, d', rfl, hd'⟩ hR
    dsimp only [seq, put, ret', iff', ite', cmpT, cmp, cmp2T, cmpP, cmpEq, cmpNe, cmpLt, cmpLe, cmpGt, cmpGe, cmpIs, cmpNot, cmpIn, rd, rdO, cst, bin, binP, binAdd, binSub, binMul, binDiv, binMod, binAnd, binPow, neg, notE, notT, andT, orT, iteT, tt, vB, vOf, andE, orE, cons', nil', tup', lst', ownL, callF, callP, lenP, absP, maxP, minP, intP, bytesP, octs, rangeP, listP, baP, lenO, bytesO, retO, appL, appB, augI, augO, item, itemP, slc, sliceP, pI, pN, rev, meth, findP, joinP, byts, putT, tN, tT, tNil, tCons, putS, sets, for', comp', dkI, dkSet, dkNE, dkPop, dkApp, retDk, intsOf, dget, dNil, dCons, seek, skip, never, St.set, isFresh, lim, V.free, frees, V.isNone, V.isB, inI, inB, lz', lt', uz', ut', nc', nn']
    have := hd'.hi
    refine ⟨by decide, by trivial, _, d', rfl, by simp, by simp, ?_, rfl, hd'.mono (by lia), fun x hx d₂ hd₂ ht₂ => ?_⟩
    · intro x hx
      simp only [List.mem_cons, List.not_mem_nil, or_false] at hx
      rcases hx with rfl | rfl | rfl | rfl <;> rfl
    · refine hR x _ ?_ ⟨_, d₂, rfl, hd₂.mono (by lia)⟩
      simp only [List.mem_cons, List.not_mem_nil, or_false] at hx
      rcases hx with rfl | rfl | rfl | rfl <;> exact ⟨_, rfl, by decide⟩
  · rintro xs st hl hx ⟨o, d', rfl, hd'⟩
    simp only [List.length_map, List.length_range] at hl
    dsimp only [List.nil_append, seq, put, ret', iff', ite', cmpT, cmp, cmp2T, cmpP, cmpEq, cmpNe, cmpLt, cmpLe, cmpGt, cmpGe, cmpIs, cmpNot, cmpIn, rd, rdO, cst, bin, binP, binAdd, binSub, binMul, binDiv, binMod, binAnd, binPow, neg, notE, notT, andT, orT, iteT, tt, vB, vOf, andE, orE, cons', nil', tup', lst', ownL, callF, callP, lenP, absP, maxP, minP, intP, bytesP, octs, rangeP, listP, baP, lenO, bytesO, retO, appL, appB, augI, augO, item, itemP, slc, sliceP, pI, pN, rev, meth, findP, joinP, byts, putT, tN, tT, tNil, tCons, putS, sets, for', comp', dkI, dkSet, dkNE, dkPop, dkApp, retDk, intsOf, dget, dNil, dCons, seek, skip, never, St.set, isFresh, lim, V.free, frees, V.isNone, V.isB, inI, inB, lz', lt', uz', ut', nc', nn']
    refine ⟨trivial, joinB xs hx _ fun O bs hO hj hs => ⟨by lia, ?_⟩⟩
    rw [hj]
    show t__law_replaced_right_1 _ _ _ ⟨[some .deck, some (.byt O), none, none, none, none, none, none, none], .fresh, some d'⟩ _
    have hdt' := hd'.hi
    simp only [List.length_map, List.length_range] at hdt'
    unfold t__law_replaced_right_1
    dsimp only [List.reverse_cons, List.reverse_nil, List.nil_append, List.cons_append, seq, put, ret', iff', ite', cmpT, cmp, cmp2T, cmpP, cmpEq, cmpNe, cmpLt, cmpLe, cmpGt, cmpGe, cmpIs, cmpNot, cmpIn, rd, rdO, cst, bin, binP, binAdd, binSub, binMul, binDiv, binMod, binAnd, binPow, neg, notE, notT, andT, orT, iteT, tt, vB, vOf, andE, orE, cons', nil', tup', lst', ownL, callF, callP, lenP, absP, maxP, minP, intP, bytesP, octs, rangeP, listP, baP, lenO, bytesO, retO, appL, appB, augI, augO, item, itemP, slc, sliceP, pI, pN, rev, meth, findP, joinP, byts, putT, tN, tT, tNil, tCons, putS, sets, for', comp', dkI, dkSet, dkNE, dkPop, dkApp, retDk, intsOf, dget, dNil, dCons, seek, skip, never, St.set, isFresh, lim, V.free, frees, V.isNone, V.isB, inI, inB, lz', lt', uz', ut', nc', nn']
    refine ⟨by decide, by trivial, _, d', rfl, by simp, by simp, ?_, rfl, hd'.mono (by simp; lia), fun x hx d₂ hd₂ ht₂ => ?_⟩
    · intro x hx
      simp only [List.mem_cons, List.not_mem_nil, or_false] at hx
      rcases hx with rfl | rfl | rfl | rfl <;> rfl
    obtain ⟨T, rfl, hT, hTf⟩ : ∃ T : List UInt8, x = .byt T ∧ T.length ≤ 2 ∧ T.map lowI = T := by
      simp only [List.mem_cons, List.not_mem_nil, or_false] at hx
      rcases hx with rfl | rfl | rfl | rfl <;> exact ⟨_, rfl, by decide, by decide⟩
    have hd₂' := hd₂.hi
    refine ⟨by decide, by trivial, _, d₂, rfl, by simp, by simp, ?_, rfl, hd₂.mono (by lia), fun x hx d₃ hd₃ ht₃ => ?_⟩
    · intro x hx
      simp only [List.mem_cons, List.not_mem_nil, or_false] at hx
      rcases hx with rfl | rfl | rfl <;> rfl
    obtain ⟨o2, rfl, ho⟩ : ∃ o : List UInt8, x = .byt o ∧ o.length ≤ 3 := by
      simp only [List.mem_cons, List.not_mem_nil, or_false] at hx
      rcases hx with rfl | rfl | rfl <;> exact ⟨_, rfl, by decide⟩
    have hd₃' := hd₃.hi
    refine ⟨by decide, by trivial, _, d₃, rfl, by simp, by simp, ?_, rfl, hd₃.mono (by lia), fun x hx d₄ hd₄ ht₄ => ?_⟩
    · intro x hx
      simp only [List.mem_cons, List.not_mem_nil, or_false] at hx
      rcases hx with rfl | rfl | rfl <;> rfl
    obtain ⟨l, rfl, hl'⟩ : ∃ l : Option (List UInt8), x = letV l ∧ (l = none ∨ l = some [105] ∨ l = some [103]) := by
      simp only [List.mem_cons, List.not_mem_nil, or_false] at hx
      rcases hx with rfl | rfl | rfl
      · exact ⟨none, rfl, .inl rfl⟩
      · exact ⟨some [105], rfl, .inr (.inl rfl)⟩
      · exact ⟨some [103], rfl, .inr (.inr rfl)⟩
    refine ⟨by decide, by trivial, ?_⟩
    show t__law_replaced_right_2 _ _ _ ⟨[some .deck, some (.byt O), some (.byt T), some (.byt o2), some (letV l), none, none, none, none], .fresh, some d₄⟩ _
    unfold t__law_replaced_right_2
    dsimp only [seq, put, ret', iff', ite', cmpT, cmp, cmp2T, cmpP, cmpEq, cmpNe, cmpLt, cmpLe, cmpGt, cmpGe, cmpIs, cmpNot, cmpIn, rd, rdO, cst, bin, binP, binAdd, binSub, binMul, binDiv, binMod, binAnd, binPow, neg, notE, notT, andT, orT, iteT, tt, vB, vOf, andE, orE, cons', nil', tup', lst', ownL, callF, callP, lenP, absP, maxP, minP, intP, bytesP, octs, rangeP, listP, baP, lenO, bytesO, retO, appL, appB, augI, augO, item, itemP, slc, sliceP, pI, pN, rev, meth, findP, joinP, byts, putT, tN, tT, tNil, tCons, putS, sets, for', comp', dkI, dkSet, dkNE, dkPop, dkApp, retDk, intsOf, dget, dNil, dCons, seek, skip, never, St.set, isFresh, lim, V.free, frees, V.isNone, V.isB, inI, inB, lz', lt', uz', ut', nc', nn']
    refine ⟨by decide, by trivial, ?_⟩
    unfold t__law_replaced_right_3 w__law_replaced_right_1
    dsimp only [seq, while']
    have hO' : O.length ≤ 12 := by lia
    have e : scanT T o2 (foldP (l == some [105]) O) O = replP T o2 (l == some [105]) O := by
      unfold scanT replP
      have : foldP (l == some [105]) T = T := by unfold foldP; split; exact hTf; rfl
      rw [this]
    refine ⟨30, loop_rr (O := O) (T := T) (o := o2) l hl' (by lia) (by lia) (by lia) _ _ _ (some d₄) (replP T o2 (l == some [105]) O) _ (fun x7 x8 => ?_) 30 0 [] none none (by rw [List.drop_zero, List.drop_zero, List.nil_append]; exact e) (by simp) (Nat.zero_le _) (by lia)⟩
    dsimp only [rrst]
    unfold t__law_replaced_right_4
    rcases hl' with rfl | rfl | rfl
    · dsimp only [letV, seq, put, ret', iff', ite', cmpT, cmp, cmp2T, cmpP, cmpEq, cmpNe, cmpLt, cmpLe, cmpGt, cmpGe, cmpIs, cmpNot, cmpIn, rd, rdO, cst, bin, binP, binAdd, binSub, binMul, binDiv, binMod, binAnd, binPow, neg, notE, notT, andT, orT, iteT, tt, vB, vOf, andE, orE, cons', nil', tup', lst', ownL, callF, callP, lenP, absP, maxP, minP, intP, bytesP, octs, rangeP, listP, baP, lenO, bytesO, retO, appL, appB, augI, augO, item, itemP, slc, sliceP, pI, pN, rev, meth, findP, joinP, byts, putT, tN, tT, tNil, tCons, putS, sets, for', comp', dkI, dkSet, dkNE, dkPop, dkApp, retDk, intsOf, dget, dNil, dCons, seek, skip, never, St.set, isFresh, lim, V.free, frees, V.isNone, V.isB, inI, inB, lz', lt', uz', ut', nc', nn']
      refine ⟨by decide, by decide, by decide, by trivial, O, T, o2, none, rfl, by lia, by lia, by lia, .inl rfl, ?_⟩
      simp only [beq_self_eq_true]
      exact ⟨by trivial, h _⟩
    · dsimp only [letV, seq, put, ret', iff', ite', cmpT, cmp, cmp2T, cmpP, cmpEq, cmpNe, cmpLt, cmpLe, cmpGt, cmpGe, cmpIs, cmpNot, cmpIn, rd, rdO, cst, bin, binP, binAdd, binSub, binMul, binDiv, binMod, binAnd, binPow, neg, notE, notT, andT, orT, iteT, tt, vB, vOf, andE, orE, cons', nil', tup', lst', ownL, callF, callP, lenP, absP, maxP, minP, intP, bytesP, octs, rangeP, listP, baP, lenO, bytesO, retO, appL, appB, augI, augO, item, itemP, slc, sliceP, pI, pN, rev, meth, findP, joinP, byts, putT, tN, tT, tNil, tCons, putS, sets, for', comp', dkI, dkSet, dkNE, dkPop, dkApp, retDk, intsOf, dget, dNil, dCons, seek, skip, never, St.set, isFresh, lim, V.free, frees, V.isNone, V.isB, inI, inB, lz', lt', uz', ut', nc', nn']
      refine ⟨by decide, by decide, by decide, by trivial, O, T, o2, some [105], rfl, by lia, by lia, by lia, .inr (.inl rfl), ?_⟩
      simp only [beq_self_eq_true]
      exact ⟨by trivial, h _⟩
    · dsimp only [letV, seq, put, ret', iff', ite', cmpT, cmp, cmp2T, cmpP, cmpEq, cmpNe, cmpLt, cmpLe, cmpGt, cmpGe, cmpIs, cmpNot, cmpIn, rd, rdO, cst, bin, binP, binAdd, binSub, binMul, binDiv, binMod, binAnd, binPow, neg, notE, notT, andT, orT, iteT, tt, vB, vOf, andE, orE, cons', nil', tup', lst', ownL, callF, callP, lenP, absP, maxP, minP, intP, bytesP, octs, rangeP, listP, baP, lenO, bytesO, retO, appL, appB, augI, augO, item, itemP, slc, sliceP, pI, pN, rev, meth, findP, joinP, byts, putT, tN, tT, tNil, tCons, putS, sets, for', comp', dkI, dkSet, dkNE, dkPop, dkApp, retDk, intsOf, dget, dNil, dCons, seek, skip, never, St.set, isFresh, lim, V.free, frees, V.isNone, V.isB, inI, inB, lz', lt', uz', ut', nc', nn']
      refine ⟨by decide, by decide, by decide, by trivial, O, T, o2, some [103], rfl, by lia, by lia, by lia, .inr (.inr rfl), ?_⟩
      simp only [beq_self_eq_true]
      exact ⟨by trivial, h _⟩
end

section
abbrev Piece := List UInt8 × Bool
noncomputable def menu6 : List Piece := [([97], false), ([32], false), ([195, 169], false), ([35, 91, 102, 103, 61, 114, 101, 100, 93], true), ([98], false), ([35, 91, 93], true)]
noncomputable def flat (ps : List Piece) : List UInt8 := (ps.map (·.1)).flatten
noncomputable def pv (p : Piece) : V := .tup [.bool (!p.2), .byt p.1]
theorem flat_cons (p : Piece) (ps : List Piece) : flat (p :: ps) = p.1 ++ flat ps := rfl
theorem flat_append (ps qs : List Piece) : flat (ps ++ qs) = flat ps ++ flat qs := by unfold flat; simp
theorem piece_len {p : Piece} (h : p ∈ menu6) : 0 < p.1.length ∧ p.1.length ≤ 9 := by
  simp only [menu6, List.mem_cons, List.not_mem_nil, or_false] at h
  rcases h with rfl | rfl | rfl | rfl | rfl | rfl <;> decide
theorem flat_len : ∀ (ps : List Piece), (∀ p ∈ ps, p ∈ menu6) → (flat ps).length ≤ 9 * ps.length
  | [], _ => by simp [flat]
  | p :: ps, h => by
    rw [flat_cons, List.length_append, List.length_cons]
    have := (piece_len (h p List.mem_cons_self)).2
    have := flat_len ps fun q hq => h q (List.mem_cons_of_mem _ hq)
    lia
theorem frees_pv : ∀ ps : List Piece, frees (ps.map pv) = true
  | [] => rfl
  | p :: ps => by
    simp only [List.map_cons, frees, frees_pv ps, Bool.and_true]
    rfl

noncomputable def SignEnd : Spec := fun ds dk Q => ∃ (O : List UInt8) (a : Nat) (b tail : List UInt8), ds = [.byt O, .int a] ∧ O.length ≤ 200 ∧ O.drop a = b ++ tail ∧ (b, false) ∈ menu6 ∧ Q (.int ((a + b.length : Nat) : Int)) dk
theorem get_drop {O : List UInt8} {a : Nat} {b : List UInt8} (h : O.drop a = b) (j : Nat) : O[a + j]? = b[j]? := by rw [← h, List.getElem?_drop]
theorem fSignEnd {ds dk Q} (h : SignEnd ds dk Q) : entry Γ_format_sign_end 2 (sem_format_sign_end Lead) ds dk Q := by
  obtain ⟨O, a, b, tail, rfl, hO, hb, hm, h⟩ := h
  refine ⟨rfl, ?_⟩
  rw [show start Γ_format_sign_end [.byt O, .int a] dk = ⟨[some (.byt O), some (.int a), none, none, none, none, none, none], .fresh, dk⟩ from rfl]
  have g := get_drop hb
  have hal : a < O.length := by
    have e := congrArg List.length hb
    rw [List.length_drop, List.length_append] at e
    have := (piece_len hm).1
    dsimp only at this
    lia
  show t_format_sign_end_0 _ _ _
  unfold t_format_sign_end_0
  simp only [List.reverse_cons, List.reverse_nil, List.nil_append, List.cons_append, seq, put, ret', iff', ite', cmpT, cmp, cmp2T, cmpP, cmpEq, cmpNe, cmpLt, cmpLe, cmpGt, cmpGe, cmpIs, cmpNot, cmpIn, rd, rdO, cst, bin, binP, binAdd, binSub, binMul, binDiv, binMod, binAnd, binPow, neg, notE, notT, andT, orT, iteT, tt, vB, vOf, andE, orE, cons', nil', tup', lst', ownL, callF, callP, lenP, absP, maxP, minP, intP, bytesP, octs, rangeP, listP, baP, lenO, bytesO, retO, appL, appB, augI, augO, item, itemP, slc, sliceP, pI, pN, rev, meth, findP, joinP, byts, putT, tN, tT, tNil, tCons, putS, sets, for', iterOf, comp', dkI, dkSet, dkNE, dkPop, dkApp, retDk, intsOf, dget, dNil, dCons, seek, skip, never, St.set, isFresh, lim, V.free, frees, V.isNone, V.isB, inI, inB, lz', lt', uz', ut', nc', nn']
  refine ⟨⟨by lia, by lia, by lia⟩, by trivial, _, rfl, by decide, by trivial, ?_⟩
  rw [Int.toNat_natCast]
  have one : ∀ c : UInt8, b = [c] → leadV (c.toNat : Int) = .none → t_format_sign_end_1 Lead ⟨[some (.byt O), some (.int a), some (leadV ((O.getD a 0).toNat : Int)), some (.int ((a : Int) + 1)), none, none, none, none], .fresh, dk⟩ (fin Q) := by
    intro c hc hl
    have h0 := g 0
    rw [hc] at h0
    rw [getD_of (show O[a]? = some c from by simpa using h0), hl]
    unfold t_format_sign_end_1
    simp only [seq, put, ret', iff', ite', cmpT, cmp, cmp2T, cmpP, cmpEq, cmpNe, cmpLt, cmpLe, cmpGt, cmpGe, cmpIs, cmpNot, cmpIn, rd, rdO, cst, bin, binP, binAdd, binSub, binMul, binDiv, binMod, binAnd, binPow, neg, notE, notT, andT, orT, iteT, tt, vB, vOf, andE, orE, cons', nil', tup', lst', ownL, callF, callP, lenP, absP, maxP, minP, intP, bytesP, octs, rangeP, listP, baP, lenO, bytesO, retO, appL, appB, augI, augO, item, itemP, slc, sliceP, pI, pN, rev, meth, findP, joinP, byts, putT, tN, tT, tNil, tCons, putS, sets, for', iterOf, comp', dkI, dkSet, dkNE, dkPop, dkApp, retDk, intsOf, dget, dNil, dCons, seek, skip, never, St.set, isFresh, lim, V.free, frees, V.isNone, V.isB, inI, inB, lz', lt', uz', ut', nc', nn']
    show t_format_sign_end_2 _ _ _
    unfold t_format_sign_end_2
    simp only [seq, put, ret', iff', ite', cmpT, cmp, cmp2T, cmpP, cmpEq, cmpNe, cmpLt, cmpLe, cmpGt, cmpGe, cmpIs, cmpNot, cmpIn, rd, rdO, cst, bin, binP, binAdd, binSub, binMul, binDiv, binMod, binAnd, binPow, neg, notE, notT, andT, orT, iteT, tt, vB, vOf, andE, orE, cons', nil', tup', lst', ownL, callF, callP, lenP, absP, maxP, minP, intP, bytesP, octs, rangeP, listP, baP, lenO, bytesO, retO, appL, appB, augI, augO, item, itemP, slc, sliceP, pI, pN, rev, meth, findP, joinP, byts, putT, tN, tT, tNil, tCons, putS, sets, for', iterOf, comp', dkI, dkSet, dkNE, dkPop, dkApp, retDk, intsOf, dget, dNil, dCons, seek, skip, never, St.set, isFresh, lim, V.free, frees, V.isNone, V.isB, inI, inB, lz', lt', uz', ut', nc', nn']
    rw [hc] at h
    exact ⟨by trivial, h⟩
  simp only [menu6, List.mem_cons, List.not_mem_nil, or_false, Prod.mk.injEq] at hm
  rcases hm with ⟨hm, _⟩ | ⟨hm, _⟩ | ⟨hm, _⟩ | ⟨_, hm⟩ | ⟨hm, _⟩ | ⟨_, hm⟩
  · exact one 97 hm rfl
  · exact one 32 hm rfl
  · have h0 := g 0
    have h1 := g 1
    rw [hm] at h0 h1
    have hal2 : a + 1 < O.length := by
      have := congrArg List.length hb
      rw [hm, List.length_drop, List.length_append] at this
      simp only [List.length_cons, List.length_nil] at this
      lia
    rw [getD_of (show O[a]? = some 195 from by simpa using h0)]
    rw [show leadV (((195 : UInt8).toNat : Nat) : Int) = .tup [.int 1, .int (Builtin.bitAnd 195 31), .int 128, .int 191] from rfl]
    unfold t_format_sign_end_1
    simp only [seq, put, ret', iff', ite', cmpT, cmp, cmp2T, cmpP, cmpEq, cmpNe, cmpLt, cmpLe, cmpGt, cmpGe, cmpIs, cmpNot, cmpIn, rd, rdO, cst, bin, binP, binAdd, binSub, binMul, binDiv, binMod, binAnd, binPow, neg, notE, notT, andT, orT, iteT, tt, vB, vOf, andE, orE, cons', nil', tup', lst', ownL, callF, callP, lenP, absP, maxP, minP, intP, bytesP, octs, rangeP, listP, baP, lenO, bytesO, retO, appL, appB, augI, augO, item, itemP, slc, sliceP, pI, pN, rev, meth, findP, joinP, byts, putT, tN, tT, tNil, tCons, putS, sets, for', iterOf, comp', dkI, dkSet, dkNE, dkPop, dkApp, retDk, intsOf, dget, dNil, dCons, seek, skip, never, St.set, isFresh, lim, V.free, frees, V.isNone, V.isB, inI, inB, lz', lt', uz', ut', nc', nn']
    show c_format_sign_end_1 _ _ _
    unfold c_format_sign_end_1 w_format_sign_end_1
    simp only [while', seq, put, ret', iff', ite', cmpT, cmp, cmp2T, cmpP, cmpEq, cmpNe, cmpLt, cmpLe, cmpGt, cmpGe, cmpIs, cmpNot, cmpIn, rd, rdO, cst, bin, binP, binAdd, binSub, binMul, binDiv, binMod, binAnd, binPow, neg, notE, notT, andT, orT, iteT, tt, vB, vOf, andE, orE, cons', nil', tup', lst', ownL, callF, callP, lenP, absP, maxP, minP, intP, bytesP, octs, rangeP, listP, baP, lenO, bytesO, retO, appL, appB, augI, augO, item, itemP, slc, sliceP, pI, pN, rev, meth, findP, joinP, byts, putT, tN, tT, tNil, tCons, putS, sets, for', iterOf, comp', dkI, dkSet, dkNE, dkPop, dkApp, retDk, intsOf, dget, dNil, dCons, seek, skip, never, St.set, isFresh, lim, V.free, frees, V.isNone, V.isB, inI, inB, lz', lt', uz', ut', nc', nn']
    refine ⟨by trivial, 2, ?_⟩
    unfold whileN
    simp only [seq, put, ret', iff', ite', cmpT, cmp, cmp2T, cmpP, cmpEq, cmpNe, cmpLt, cmpLe, cmpGt, cmpGe, cmpIs, cmpNot, cmpIn, rd, rdO, cst, bin, binP, binAdd, binSub, binMul, binDiv, binMod, binAnd, binPow, neg, notE, notT, andT, orT, iteT, tt, vB, vOf, andE, orE, cons', nil', tup', lst', ownL, callF, callP, lenP, absP, maxP, minP, intP, bytesP, octs, rangeP, listP, baP, lenO, bytesO, retO, appL, appB, augI, augO, item, itemP, slc, sliceP, pI, pN, rev, meth, findP, joinP, byts, putT, tN, tT, tNil, tCons, putS, sets, for', iterOf, comp', dkI, dkSet, dkNE, dkPop, dkApp, retDk, intsOf, dget, dNil, dCons, seek, skip, never, St.set, isFresh, lim, V.free, frees, V.isNone, V.isB, inI, inB, lz', lt', uz', ut', nc', nn']
    refine ⟨by lia, ?_⟩
    have e1 : decide ((a : Int) + 1 < (O.length : Int)) = true := decide_eq_true (by lia)
    rw [e1]
    dsimp only
    rw [show ((a : Int) + 1).toNat = a + 1 by lia, getD_of (show O[a + 1]? = some 169 from by simpa using h1)]
    refine ⟨⟨by lia, by lia, by lia⟩, ?_⟩
    unfold b_format_sign_end_1
    dsimp only [seq, put, ret', iff', ite', cmpT, cmp, cmp2T, cmpP, cmpEq, cmpNe, cmpLt, cmpLe, cmpGt, cmpGe, cmpIs, cmpNot, cmpIn, rd, rdO, cst, bin, binP, binAdd, binSub, binMul, binDiv, binMod, binAnd, binPow, neg, notE, notT, andT, orT, iteT, tt, vB, vOf, andE, orE, cons', nil', tup', lst', ownL, callF, callP, lenP, absP, maxP, minP, intP, bytesP, octs, rangeP, listP, baP, lenO, bytesO, retO, appL, appB, augI, augO, item, itemP, slc, sliceP, pI, pN, rev, meth, findP, joinP, byts, putT, tN, tT, tNil, tCons, putS, sets, for', iterOf, comp', dkI, dkSet, dkNE, dkPop, dkApp, retDk, intsOf, dget, dNil, dCons, seek, skip, never, St.set, isFresh, lim, V.free, frees, V.isNone, V.isB, inI, inB, lz', lt', uz', ut', nc', nn']
    refine ⟨by decide, by trivial, ?_⟩
    unfold whileN
    dsimp only [seq, put, ret', iff', ite', cmpT, cmp, cmp2T, cmpP, cmpEq, cmpNe, cmpLt, cmpLe, cmpGt, cmpGe, cmpIs, cmpNot, cmpIn, rd, rdO, cst, bin, binP, binAdd, binSub, binMul, binDiv, binMod, binAnd, binPow, neg, notE, notT, andT, orT, iteT, tt, vB, vOf, andE, orE, cons', nil', tup', lst', ownL, callF, callP, lenP, absP, maxP, minP, intP, bytesP, octs, rangeP, listP, baP, lenO, bytesO, retO, appL, appB, augI, augO, item, itemP, slc, sliceP, pI, pN, rev, meth, findP, joinP, byts, putT, tN, tT, tNil, tCons, putS, sets, for', iterOf, comp', dkI, dkSet, dkNE, dkPop, dkApp, retDk, intsOf, dget, dNil, dCons, seek, skip, never, St.set, isFresh, lim, V.free, frees, V.isNone, V.isB, inI, inB, lz', lt', uz', ut', nc', nn']
    show t_format_sign_end_2 _ _ _
    unfold t_format_sign_end_2
    dsimp only [seq, put, ret', iff', ite', cmpT, cmp, cmp2T, cmpP, cmpEq, cmpNe, cmpLt, cmpLe, cmpGt, cmpGe, cmpIs, cmpNot, cmpIn, rd, rdO, cst, bin, binP, binAdd, binSub, binMul, binDiv, binMod, binAnd, binPow, neg, notE, notT, andT, orT, iteT, tt, vB, vOf, andE, orE, cons', nil', tup', lst', ownL, callF, callP, lenP, absP, maxP, minP, intP, bytesP, octs, rangeP, listP, baP, lenO, bytesO, retO, appL, appB, augI, augO, item, itemP, slc, sliceP, pI, pN, rev, meth, findP, joinP, byts, putT, tN, tT, tNil, tCons, putS, sets, for', iterOf, comp', dkI, dkSet, dkNE, dkPop, dkApp, retDk, intsOf, dget, dNil, dCons, seek, skip, never, St.set, isFresh, lim, V.free, frees, V.isNone, V.isB, inI, inB, lz', lt', uz', ut', nc', nn']
    rw [hm] at h
    refine ⟨by trivial, ?_⟩
    rw [show (a : Int) + 1 + 1 = ((a + ([195, 169] : List UInt8).length : Nat) : Int) by simp; lia]
    exact h
  · cases hm
  · exact one 98 hm rfl
  · cases hm
end

section
theorem find_close {O front tail : List UInt8} {a : Nat} (h : O.drop a = front ++ 93 :: tail) (hf : (93 : UInt8) ∉ front) : findV O.toArray ([93] : List UInt8).toArray a = ((a + front.length : Nat) : Int) := by
  have g := get_drop h
  have hat : ∀ i, a ≤ i → (O.drop i).take 1 = ((O[i]?).map fun c => [c]).getD [] := by
    intro i _
    cases hi : O[i]? with
    | none => rw [List.drop_eq_nil_of_le (by simpa using hi)]; rfl
    | some c => rw [drop_at hi]; rfl
  have key : O[a + front.length]? = some 93 := by rw [g]; simp
  have hlt := (List.getElem?_eq_some_iff.mp key).1
  rcases findV_spec O [93] (by simp) a with ⟨p, hp, p1, p2, p3, p4⟩ | ⟨hp, hn⟩
  · rw [hp]
    congr 1
    dsimp only [List.length_cons, List.length_nil, Nat.zero_add] at p3 p4
    have h1 : p ≤ a + front.length := by
      rcases Nat.lt_or_ge (a + front.length) p with hlt' | hge
      · have := p4 (a + front.length) (by lia) hlt'
        rw [hat _ (by lia), key] at this
        exact absurd rfl this
      · exact hge
    rcases Nat.lt_or_ge p (a + front.length) with hlt' | hge
    · rw [hat _ p1] at p3
      have e : O[p]? = front[p - a]? := by
        have := g (p - a)
        rw [show a + (p - a) = p by lia, List.getElem?_append_left (by lia)] at this
        exact this
      have hlt2 : p - a < front.length := by lia
      rw [e, List.getElem?_eq_getElem hlt2] at p3
      have : front[p - a] = 93 := by simpa using p3
      exact absurd (this ▸ List.getElem_mem hlt2) hf
    · lia
  · exfalso
    have := hn (a + front.length) (by lia) hlt
    dsimp only [List.length_cons, List.length_nil, Nat.zero_add] at this
    rw [hat _ (by lia), key] at this
    exact this rfl

abbrev pst (O : List UInt8) (done : List Piece) (x3 : Option V) (dk : Option Deck) : St := ⟨[some (.byt O), some .own, some (.int (flat done).length), x3], .live (.lst (done.map pv)), dk⟩
theorem loop_pieces (O : List UInt8) (hO : O.length ≤ 200) (dk : Option Deck) (Q : Fl → St → Prop) : ∀ (rest done : List Piece) (x3 : Option V), (∀ p ∈ rest, p ∈ menu6) → done.length + rest.length ≤ 20 → O = flat done ++ flat rest →
    (∀ x3', Q .next (pst O (done ++ rest) x3' dk)) →
    whileN (cmpT .Lt (rd 2) (callP lenP (cons' (rd 0) nil'))) (b_format_pieces_1 SignEnd) (rest.length + 1) (pst O done x3 dk) Q := by
  intro rest
  induction rest with
  | nil =>
    intro done x3 _ _ hOe hQ
    unfold whileN
    dsimp only [pst, seq, put, ret', iff', ite', cmpT, cmp, cmp2T, cmpP, cmpEq, cmpNe, cmpLt, cmpLe, cmpGt, cmpGe, cmpIs, cmpNot, cmpIn, rd, rdO, cst, bin, binP, binAdd, binSub, binMul, binDiv, binMod, binAnd, binPow, neg, notE, notT, andT, orT, iteT, tt, vB, vOf, andE, orE, cons', nil', tup', lst', ownL, callF, callP, lenP, absP, maxP, minP, intP, bytesP, octs, rangeP, listP, baP, lenO, bytesO, retO, appL, appB, augI, augO, item, itemP, slc, sliceP, pI, pN, rev, meth, findP, joinP, byts, putT, tN, tT, tNil, tCons, putS, sets, for', iterOf, comp', dkI, dkSet, dkNE, dkPop, dkApp, retDk, intsOf, dget, dNil, dCons, seek, skip, never, St.set, isFresh, lim, V.free, frees, V.isNone, V.isB, inI, inB, lz', lt', uz', ut', nc', nn']
    refine ⟨by lia, ?_⟩
    have e : O.length = (flat done).length := by rw [hOe]; simp [flat]
    rw [show decide (((flat done).length : Int) < (O.length : Int)) = false from decide_eq_false (by lia)]
    have := hQ x3
    rw [List.append_nil] at this
    exact this
  | cons p rest ih =>
    intro done x3 hm hl hOe hQ
    have hp := hm p List.mem_cons_self
    have hpl := piece_len hp
    have hd : O.drop (flat done).length = p.1 ++ flat rest := by rw [hOe, List.drop_left, flat_cons]
    have hlen : (flat done).length + p.1.length ≤ O.length := by rw [hOe, flat_cons]; simp only [List.length_append]; lia
    rw [List.length_cons] at hl ⊢
    unfold whileN
    dsimp only [pst, seq, put, ret', iff', ite', cmpT, cmp, cmp2T, cmpP, cmpEq, cmpNe, cmpLt, cmpLe, cmpGt, cmpGe, cmpIs, cmpNot, cmpIn, rd, rdO, cst, bin, binP, binAdd, binSub, binMul, binDiv, binMod, binAnd, binPow, neg, notE, notT, andT, orT, iteT, tt, vB, vOf, andE, orE, cons', nil', tup', lst', ownL, callF, callP, lenP, absP, maxP, minP, intP, bytesP, octs, rangeP, listP, baP, lenO, bytesO, retO, appL, appB, augI, augO, item, itemP, slc, sliceP, pI, pN, rev, meth, findP, joinP, byts, putT, tN, tT, tNil, tCons, putS, sets, for', iterOf, comp', dkI, dkSet, dkNE, dkPop, dkApp, retDk, intsOf, dget, dNil, dCons, seek, skip, never, St.set, isFresh, lim, V.free, frees, V.isNone, V.isB, inI, inB, lz', lt', uz', ut', nc', nn']
    refine ⟨by lia, ?_⟩
    rw [show decide (((flat done).length : Int) < (O.length : Int)) = true from decide_eq_true (by lia)]
    have c2 : cut O (some ((flat done).length : Int)) (some (((flat done).length : Int) + 2)) = (p.1 ++ flat rest).take 2 := by
      rw [show ((flat done).length : Int) + 2 = (((flat done).length + 2 : Nat) : Int) by lia, cut_mid, hd, show (flat done).length + 2 - (flat done).length = 2 by lia]
    have cp : cut O (some ((flat done).length : Int)) (some (((flat done).length + p.1.length : Nat) : Int)) = p.1 := by
      rw [cut_mid, hd, show (flat done).length + p.1.length - (flat done).length = p.1.length by lia, List.take_left]
    -- behind the turn
    have next : ∀ x3', whileN (cmpT .Lt (rd 2) (callP lenP (cons' (rd 0) nil'))) (b_format_pieces_1 SignEnd) (rest.length + 1) ⟨[some (.byt O), some .own, some (.int (((flat done).length + p.1.length : Nat) : Int)), x3'], .live (.lst (done.map pv ++ [pv p])), dk⟩ Q := by
      intro x3'
      have := ih (done ++ [p]) x3' (fun q hq => hm q (List.mem_cons_of_mem _ hq)) (by simp only [List.length_append, List.length_cons, List.length_nil]; lia) (by rw [hOe, flat_append, flat_cons, flat_cons]; simp [flat]) (fun x => by
        have := hQ x; simpa using this)
      dsimp only [pst] at this
      rw [show flat (done ++ [p]) = flat done ++ p.1 by rw [flat_append, flat_cons]; simp [flat]] at this
      simp only [List.length_append, List.map_append, List.map_cons, List.map_nil] at this
      exact this
    unfold b_format_pieces_1
    dsimp only [seq, put, ret', iff', ite', cmpT, cmp, cmp2T, cmpP, cmpEq, cmpNe, cmpLt, cmpLe, cmpGt, cmpGe, cmpIs, cmpNot, cmpIn, rd, rdO, cst, bin, binP, binAdd, binSub, binMul, binDiv, binMod, binAnd, binPow, neg, notE, notT, andT, orT, iteT, tt, vB, vOf, andE, orE, cons', nil', tup', lst', ownL, callF, callP, lenP, absP, maxP, minP, intP, bytesP, octs, rangeP, listP, baP, lenO, bytesO, retO, appL, appB, augI, augO, item, itemP, slc, sliceP, pI, pN, rev, meth, findP, joinP, byts, putT, tN, tT, tNil, tCons, putS, sets, for', iterOf, comp', dkI, dkSet, dkNE, dkPop, dkApp, retDk, intsOf, dget, dNil, dCons, seek, skip, never, St.set, isFresh, lim, V.free, frees, V.isNone, V.isB, inI, inB, lz', lt', uz', ut', nc', nn']
    refine ⟨by lia, ?_⟩
    rw [c2]
    have hdl : done.length < 1000000 := by lia
    -- a sign
    have sign : p.2 = false → ∀ t2 : List UInt8, (p.1 ++ flat rest).take 2 = t2 → (t2 == [35, 91]) = false → (t2 == [35, 35]) = false →
        c_format_pieces_2 SignEnd ⟨[some (.byt O), some .own, some (.int (flat done).length), some (.int (-1))], .live (.lst (done.map pv)), dk⟩ (fun fl st₂ => match fl with
          | .next => whileN (cmpT .Lt (rd 2) (callP lenP (cons' (rd 0) nil'))) (b_format_pieces_1 SignEnd) (rest.length + 1) st₂ Q
          | .ret d => Q (.ret d) st₂) := by
      intro hs t2 ht h1 h2
      unfold c_format_pieces_2
      dsimp only [seq, put, ret', iff', ite', cmpT, cmp, cmp2T, cmpP, cmpEq, cmpNe, cmpLt, cmpLe, cmpGt, cmpGe, cmpIs, cmpNot, cmpIn, rd, rdO, cst, bin, binP, binAdd, binSub, binMul, binDiv, binMod, binAnd, binPow, neg, notE, notT, andT, orT, iteT, tt, vB, vOf, andE, orE, cons', nil', tup', lst', ownL, callF, callP, lenP, absP, maxP, minP, intP, bytesP, octs, rangeP, listP, baP, lenO, bytesO, retO, appL, appB, augI, augO, item, itemP, slc, sliceP, pI, pN, rev, meth, findP, joinP, byts, putT, tN, tT, tNil, tCons, putS, sets, for', iterOf, comp', dkI, dkSet, dkNE, dkPop, dkApp, retDk, intsOf, dget, dNil, dCons, seek, skip, never, St.set, isFresh, lim, V.free, frees, V.isNone, V.isB, inI, inB, lz', lt', uz', ut', nc', nn']
      refine ⟨by lia, ?_⟩
      rw [c2, ht, h2]
      refine ⟨by trivial, O, (flat done).length, p.1, flat rest, rfl, hO, hd, by rw [← hs]; exact hp, ?_⟩
      refine ⟨by lia, by decide, by simp only [List.length_map]; exact hdl, ?_⟩
      rw [cp]
      have := next (some (.int (((flat done).length + p.1.length : Nat) : Int)))
      unfold pv at this
      rw [hs] at this
      exact this
    -- a style
    have style : ∀ front, p.1 = front ++ [93] → (93 : UInt8) ∉ front → p.2 = true →
        c_format_pieces_1 SignEnd ⟨[some (.byt O), some .own, some (.int (flat done).length), some (.int (findV O.toArray ([93] : List UInt8).toArray (flat done).length))], .live (.lst (done.map pv)), dk⟩ (fun fl st₂ => match fl with
          | .next => whileN (cmpT .Lt (rd 2) (callP lenP (cons' (rd 0) nil'))) (b_format_pieces_1 SignEnd) (rest.length + 1) st₂ Q
          | .ret d => Q (.ret d) st₂) ∧ decide (findV O.toArray ([93] : List UInt8).toArray (flat done).length ≥ 0) = true := by
      intro front hfr hnf hs
      have hfind := find_close (O := O) (a := (flat done).length) (front := front) (tail := flat rest) (by rw [hd, hfr]; simp) hnf
      rw [hfind]
      have e1 : (((flat done).length + front.length : Nat) : Int) + 1 = (((flat done).length + p.1.length : Nat) : Int) := by rw [hfr]; simp; lia
      refine ⟨?_, decide_eq_true (by lia)⟩
      unfold c_format_pieces_1
      dsimp only [seq, put, ret', iff', ite', cmpT, cmp, cmp2T, cmpP, cmpEq, cmpNe, cmpLt, cmpLe, cmpGt, cmpGe, cmpIs, cmpNot, cmpIn, rd, rdO, cst, bin, binP, binAdd, binSub, binMul, binDiv, binMod, binAnd, binPow, neg, notE, notT, andT, orT, iteT, tt, vB, vOf, andE, orE, cons', nil', tup', lst', ownL, callF, callP, lenP, absP, maxP, minP, intP, bytesP, octs, rangeP, listP, baP, lenO, bytesO, retO, appL, appB, augI, augO, item, itemP, slc, sliceP, pI, pN, rev, meth, findP, joinP, byts, putT, tN, tT, tNil, tCons, putS, sets, for', iterOf, comp', dkI, dkSet, dkNE, dkPop, dkApp, retDk, intsOf, dget, dNil, dCons, seek, skip, never, St.set, isFresh, lim, V.free, frees, V.isNone, V.isB, inI, inB, lz', lt', uz', ut', nc', nn']
      rw [e1, cp]
      refine ⟨by lia, by decide, by simp only [List.length_map]; exact hdl, ?_⟩
      have := next (some (.int (((flat done).length + front.length : Nat) : Int)))
      unfold pv at this
      rw [hs] at this
      exact this
    simp only [menu6, List.mem_cons, List.not_mem_nil, or_false] at hp
    rcases hp with rfl | rfl | rfl | rfl | rfl | rfl
    · exact sign rfl _ rfl rfl rfl
    · exact sign rfl _ rfl rfl rfl
    · exact sign rfl _ rfl rfl rfl
    · obtain ⟨s1, s2⟩ := style [35, 91, 102, 103, 61, 114, 101, 100] rfl (by decide) rfl
      refine ⟨trivial, by lia, ?_⟩
      rw [s2]
      exact s1
    · exact sign rfl _ rfl rfl rfl
    · obtain ⟨s1, s2⟩ := style [35, 91] rfl (by decide) rfl
      refine ⟨trivial, by lia, ?_⟩
      rw [s2]
      exact s1

noncomputable def Pieces : Spec := fun ds dk Q => ∃ ps : List Piece, ds = [.byt (flat ps)] ∧ (∀ p ∈ ps, p ∈ menu6) ∧ ps.length ≤ 10 ∧ Q (.lst (ps.map pv)) dk
theorem fPieces {ds dk Q} (h : Pieces ds dk Q) : entry Γ_format_pieces 1 (sem_format_pieces SignEnd) ds dk Q := by
  obtain ⟨ps, rfl, hm, hl, h⟩ := h
  refine ⟨rfl, ?_⟩
  rw [show start Γ_format_pieces [.byt (flat ps)] dk = ⟨[some (.byt (flat ps)), none, none, none], .fresh, dk⟩ from rfl]
  have hfl := flat_len ps hm
  show t_format_pieces_0 _ _ _
  unfold t_format_pieces_0
  dsimp only [List.reverse_cons, List.reverse_nil, List.nil_append, List.cons_append, seq, put, ret', iff', ite', cmpT, cmp, cmp2T, cmpP, cmpEq, cmpNe, cmpLt, cmpLe, cmpGt, cmpGe, cmpIs, cmpNot, cmpIn, rd, rdO, cst, bin, binP, binAdd, binSub, binMul, binDiv, binMod, binAnd, binPow, neg, notE, notT, andT, orT, iteT, tt, vB, vOf, andE, orE, cons', nil', tup', lst', ownL, callF, callP, lenP, absP, maxP, minP, intP, bytesP, octs, rangeP, listP, baP, lenO, bytesO, retO, appL, appB, augI, augO, item, itemP, slc, sliceP, pI, pN, rev, meth, findP, joinP, byts, putT, tN, tT, tNil, tCons, putS, sets, for', iterOf, comp', dkI, dkSet, dkNE, dkPop, dkApp, retDk, intsOf, dget, dNil, dCons, seek, skip, never, St.set, isFresh, lim, V.free, frees, V.isNone, V.isB, inI, inB, lz', lt', uz', ut', nc', nn']
  refine ⟨trivial, by decide, by decide, by trivial, ?_⟩
  unfold t_format_pieces_1 w_format_pieces_1
  dsimp only [seq, while']
  refine ⟨ps.length + 1, loop_pieces (flat ps) (by lia) dk _ ps [] none hm (by simp; lia) (by simp [flat]) fun x3' => ?_⟩
  dsimp only [pst]
  unfold t_format_pieces_2
  dsimp only [List.nil_append, seq, put, ret', iff', ite', cmpT, cmp, cmp2T, cmpP, cmpEq, cmpNe, cmpLt, cmpLe, cmpGt, cmpGe, cmpIs, cmpNot, cmpIn, rd, rdO, cst, bin, binP, binAdd, binSub, binMul, binDiv, binMod, binAnd, binPow, neg, notE, notT, andT, orT, iteT, tt, vB, vOf, andE, orE, cons', nil', tup', lst', ownL, callF, callP, lenP, absP, maxP, minP, intP, bytesP, octs, rangeP, listP, baP, lenO, bytesO, retO, appL, appB, augI, augO, item, itemP, slc, sliceP, pI, pN, rev, meth, findP, joinP, byts, putT, tN, tT, tNil, tCons, putS, sets, for', iterOf, comp', dkI, dkSet, dkNE, dkPop, dkApp, retDk, intsOf, dget, dNil, dCons, seek, skip, never, St.set, isFresh, lim, V.free, frees, V.isNone, V.isB, inI, inB, lz', lt', uz', ut', nc', nn']
  exact ⟨frees_pv ps, h⟩
end

section
noncomputable def signsN (ps : List Piece) : Nat := (ps.filter fun p => !p.2).length
noncomputable def cutG (lo hi : Int) : Int → List Piece → List UInt8
  | _, [] => []
  | m, p :: r => if p.2 then p.1 ++ cutG lo hi m r else (if m + 1 > lo ∧ m + 1 ≤ hi then p.1 else []) ++ cutG lo hi (m + 1) r
noncomputable def cutP (ps : List Piece) (most : Int) (fe : Bool) : List UInt8 := cutG (if fe then (signsN ps : Int) - most else 0) (most + max 0 (if fe then (signsN ps : Int) - most else 0)) 0 ps
/-- places of the signs, from i on -/
noncomputable def idx : Nat → List Piece → List Nat
  | _, [] => []
  | i, p :: r => if p.2 then idx (i + 1) r else i :: idx (i + 1) r
noncomputable def lawG (kept : List Nat) : Nat → List Piece → List UInt8
  | _, [] => []
  | i, p :: r => (if p.2 || kept.contains i then p.1 else []) ++ lawG kept (i + 1) r
theorem idx_length : ∀ (ps : List Piece) (i : Nat), (idx i ps).length = signsN ps
  | [], _ => rfl
  | p :: r, i => by
    unfold idx signsN
    cases hp : p.2 with
    | true => rw [if_pos rfl, List.filter_cons_of_neg (by simp [hp])]; exact idx_length r (i + 1)
    | false => rw [if_neg (by decide), List.filter_cons_of_pos (by simp [hp])]; simp [idx_length r (i + 1), signsN]
theorem idx_ge : ∀ (ps : List Piece) (i k : Nat), k ∈ idx i ps → i ≤ k
  | [], _, _, h => nomatch h
  | p :: r, i, k, h => by
    unfold idx at h
    split at h
    · have := idx_ge r (i + 1) k h; lia
    · rcases List.mem_cons.mp h with rfl | h
      · exact Nat.le_refl _
      · have := idx_ge r (i + 1) k h; lia
theorem idx_nodup : ∀ (ps : List Piece) (i : Nat), (idx i ps).Nodup
  | [], _ => List.nodup_nil
  | p :: r, i => by
    unfold idx
    split
    · exact idx_nodup r (i + 1)
    · exact List.nodup_cons.mpr ⟨fun h => by have := idx_ge r (i + 1) i h; lia, idx_nodup r (i + 1)⟩
theorem cut_law (lo hi : Int) (kept : List Nat) : ∀ (ps : List Piece) (i : Nat) (m : Int), (∀ (j k : Nat), (idx i ps)[j]? = some k → (kept.contains k = true ↔ lo < m + j + 1 ∧ m + j + 1 ≤ hi)) → cutG lo hi m ps = lawG kept i ps
  | [], _, _, _ => rfl
  | p :: r, i, m, h => by
    unfold cutG lawG
    unfold idx at h
    cases hp : p.2 with
    | true =>
      rw [hp, if_pos rfl] at h
      rw [if_pos rfl, cut_law lo hi kept r (i + 1) m h]
      simp
    | false =>
      rw [hp, if_neg (by decide)] at h
      rw [if_neg (by decide), cut_law lo hi kept r (i + 1) (m + 1) fun j k hj => by
        have := h (j + 1) k (by simpa using hj)
        rw [this]
        rw [show m + ((j + 1 : Nat) : Int) + 1 = m + 1 + (j : Int) + 1 by lia]]
      have h0 := h 0 i rfl
      congr 1
      simp only [Bool.false_or]
      by_cases hk : kept.contains i = true
      · have := h0.mp hk
        rw [if_pos hk, if_pos (by lia)]
      · rw [if_neg hk, if_neg (fun x => hk (h0.mpr (by lia)))]
theorem mem_part (xs : List Nat) (hn : xs.Nodup) (a c j k : Nat) (h : xs[j]? = some k) : ((xs.drop a).take c).contains k = true ↔ a ≤ j ∧ j < a + c := by
  rw [List.contains_iff_mem]
  have hj := (List.getElem?_eq_some_iff.mp h).1
  have inj : ∀ i, xs[i]? = some k → i = j := fun i hi => by
    have hil := (List.getElem?_eq_some_iff.mp hi).1
    have e1 := (List.getElem?_eq_some_iff.mp h).2
    have e2 := (List.getElem?_eq_some_iff.mp hi).2
    have pw := List.pairwise_iff_getElem.mp hn
    rcases Nat.lt_trichotomy i j with hij | hij | hij
    · exact absurd (e2.trans e1.symm) (pw i j hil hj hij)
    · exact hij
    · exact absurd (e1.trans e2.symm) (pw j i hj hil hij)
  constructor
  · intro hm
    obtain ⟨i, hi⟩ := List.getElem?_of_mem hm
    have hil := (List.getElem?_eq_some_iff.mp hi).1
    rw [List.length_take, List.length_drop] at hil
    rw [List.getElem?_take_of_lt (by lia), List.getElem?_drop] at hi
    have := inj _ hi
    lia
  · rintro ⟨h1, h2⟩
    refine List.mem_of_getElem? (i := j - a) ?_
    rw [List.getElem?_take_of_lt (by lia), List.getElem?_drop, show a + (j - a) = j by lia, h]
theorem cutP_law (ps : List Piece) (most : Nat) (fe : Bool) : cutP ps most fe = lawG (if fe then (idx 0 ps).drop (signsN ps - most) else (idx 0 ps).take most) 0 ps := by
  unfold cutP
  have hl := idx_length ps 0
  refine cut_law _ _ _ ps 0 0 fun j k hj => ?_
  have hjl := (List.getElem?_eq_some_iff.mp hj).1
  rw [hl] at hjl
  cases fe with
  | true =>
    simp only [if_true]
    have := mem_part (idx 0 ps) (idx_nodup ps 0) (signsN ps - most) (signsN ps) j k hj
    rw [List.take_of_length_le (by rw [List.length_drop, hl]; lia)] at this
    rw [this]
    lia
  | false =>
    simp only [Bool.false_eq_true, if_false]
    have := mem_part (idx 0 ps) (idx_nodup ps 0) 0 most j k hj
    rw [List.drop_zero] at this
    rw [this]
    lia
theorem lawG_len (kept : List Nat) : ∀ (ps : List Piece) (i : Nat), (∀ p ∈ ps, p ∈ menu6) → (lawG kept i ps).length ≤ 9 * ps.length
  | [], _, _ => by simp [lawG]
  | p :: r, i, h => by
    unfold lawG
    rw [List.length_append, List.length_cons]
    have := (piece_len (h p List.mem_cons_self)).2
    have := lawG_len kept r (i + 1) fun q hq => h q (List.mem_cons_of_mem _ hq)
    split <;> simp <;> lia
theorem cutG_len (lo hi : Int) : ∀ (ps : List Piece) (m : Int), (∀ p ∈ ps, p ∈ menu6) → (cutG lo hi m ps).length ≤ 9 * ps.length
  | [], _, _ => by simp [cutG]
  | p :: r, m, h => by
    unfold cutG
    have h1 := (piece_len (h p List.mem_cons_self)).2
    have h2 := cutG_len lo hi r m fun q hq => h q (List.mem_cons_of_mem _ hq)
    have h3 := cutG_len lo hi r (m + 1) fun q hq => h q (List.mem_cons_of_mem _ hq)
    rw [List.length_cons]
    split
    · rw [List.length_append]; lia
    · rw [List.length_append]; split <;> simp <;> lia

-- width
noncomputable def isSg : V → Bool
  | .tup (.bool b :: _) => b
  | _ => false
theorem sg_len (ps : List Piece) : ((ps.map pv).filter isSg).length = signsN ps := by
  rw [List.filter_map, List.length_map]; rfl
noncomputable def Width : Spec := fun ds dk Q => ∃ ps : List Piece, ds = [.byt (flat ps)] ∧ (∀ p ∈ ps, p ∈ menu6) ∧ ps.length ≤ 10 ∧ Q (.int (signsN ps)) dk
theorem fWidth {ds dk Q} (h : Width ds dk Q) : entry Γ_format_width 1 (sem_format_width Pieces) ds dk Q := by
  obtain ⟨ps, rfl, hm, hl, h⟩ := h
  refine ⟨rfl, ?_⟩
  rw [show start Γ_format_width [.byt (flat ps)] dk = ⟨[some (.byt (flat ps))], .fresh, dk⟩ from rfl]
  show t_format_width_0 _ _ _
  unfold t_format_width_0
  dsimp only [seq, put, ret', iff', ite', cmpT, cmp, cmp2T, cmpP, cmpEq, cmpNe, cmpLt, cmpLe, cmpGt, cmpGe, cmpIs, cmpNot, cmpIn, rd, rdO, cst, bin, binP, binAdd, binSub, binMul, binDiv, binMod, binAnd, binPow, neg, notE, notT, andT, orT, iteT, tt, vB, vOf, andE, orE, cons', nil', tup', lst', ownL, callF, callP, lenP, absP, maxP, minP, intP, bytesP, octs, rangeP, listP, baP, lenO, bytesO, retO, appL, appB, augI, augO, item, itemP, slc, sliceP, pI, pN, rev, meth, findP, joinP, byts, putT, tN, tT, tNil, tCons, putS, sets, for', iterOf, comp', dkI, dkSet, dkNE, dkPop, dkApp, retDk, intsOf, dget, dNil, dCons, seek, skip, never, St.set, isFresh, lim, V.free, frees, V.isNone, V.isB, inI, inB, lz', lt', uz', ut', nc', nn']
  refine ⟨by trivial, ps, rfl, hm, hl, trivial, ?_⟩
  rw [show ∀ lc, inner Γ_format_width_1 [] ⟨lc, .fresh, dk⟩ = ⟨[none], .fresh, dk⟩ from fun _ => rfl]
  refine compL_map (fun st => ∃ o, st = ⟨[o], .fresh, dk⟩) isSg id _ _ [] _ ?_ (by simp; lia) ⟨_, rfl⟩ ?_
  · rintro y hy st R ⟨o, rfl⟩ hR
    obtain ⟨p, hp, rfl⟩ := List.mem_map.mp hy
    have hR' := hR ⟨[some (pv p)], .fresh, dk⟩ ⟨_, rfl⟩
    unfold pv at hR' ⊢
    simp only [isSg, id] at hR'
    dsimp only [seq, put, ret', iff', ite', cmpT, cmp, cmp2T, cmpP, cmpEq, cmpNe, cmpLt, cmpLe, cmpGt, cmpGe, cmpIs, cmpNot, cmpIn, rd, rdO, cst, bin, binP, binAdd, binSub, binMul, binDiv, binMod, binAnd, binPow, neg, notE, notT, andT, orT, iteT, tt, vB, vOf, andE, orE, cons', nil', tup', lst', ownL, callF, callP, lenP, absP, maxP, minP, intP, bytesP, octs, rangeP, listP, baP, lenO, bytesO, retO, appL, appB, augI, augO, item, itemP, slc, sliceP, pI, pN, rev, meth, findP, joinP, byts, putT, tN, tT, tNil, tCons, putS, sets, for', iterOf, comp', dkI, dkSet, dkNE, dkPop, dkApp, retDk, intsOf, dget, dNil, dCons, seek, skip, never, St.set, isFresh, lim, V.free, frees, V.isNone, V.isB, inI, inB, lz', lt', uz', ut', nc', nn']
    refine ⟨⟨by decide, by decide⟩, ?_⟩
    cases hb : p.2 with
    | true => rw [hb] at hR'; exact hR'
    | false => rw [hb] at hR'; exact hR'
  · rintro st ⟨o, rfl⟩
    simp only [List.nil_append, List.map_id]
    refine ⟨trivial, ?_, by trivial, ?_⟩
    · rw [sg_len]; have := List.length_filter_le (fun p : Piece => !p.2) ps; unfold signsN; lia
    · rw [sg_len]; exact h

-- cut
theorem loop_cut (x0 x2 x3 : Option V) (most sk : Int) (dk : Option Deck) (Q : Fl → St → Prop) : ∀ (ps : List Piece) (acc : List UInt8) (m : Int) (x7 x8 : Option V), (∀ p ∈ ps, p ∈ menu6) → acc.length + 9 * ps.length ≤ 1000 →
    (∀ m' x7' x8', Q .next ⟨[x0, some (.int most), x2, x3, some (.int sk), some .own, some (.int m'), x7', x8'], .live (.byt (acc ++ cutG sk (most + max 0 sk) m ps)), dk⟩) →
    forL (tT 2 (tCons (tN 7) (tCons (tN 8) tNil))) (b_format_cut_1 Pieces) (ps.map pv) ⟨[x0, some (.int most), x2, x3, some (.int sk), some .own, some (.int m), x7, x8], .live (.byt acc), dk⟩ Q
  | [], acc, m, x7, x8, _, _, h => by simpa [forL, cutG] using h m x7 x8
  | p :: r, acc, m, x7, x8, hm, hl, h => by
    have hp := (piece_len (hm p List.mem_cons_self)).2
    simp only [List.length_cons] at hl
    have rec' := loop_cut x0 x2 x3 most sk dk Q r
    simp only [List.map_cons, pv, forL, seq, put, ret', iff', ite', cmpT, cmp, cmp2T, cmpP, cmpEq, cmpNe, cmpLt, cmpLe, cmpGt, cmpGe, cmpIs, cmpNot, cmpIn, rd, rdO, cst, bin, binP, binAdd, binSub, binMul, binDiv, binMod, binAnd, binPow, neg, notE, notT, andT, orT, iteT, tt, vB, vOf, andE, orE, cons', nil', tup', lst', ownL, callF, callP, lenP, absP, maxP, minP, intP, bytesP, octs, rangeP, listP, baP, lenO, bytesO, retO, appL, appB, augI, augO, item, itemP, slc, sliceP, pI, pN, rev, meth, findP, joinP, byts, putT, tN, tT, tNil, tCons, putS, sets, for', iterOf, comp', dkI, dkSet, dkNE, dkPop, dkApp, retDk, intsOf, dget, dNil, dCons, seek, skip, never, St.set, isFresh, lim, V.free, frees, V.isNone, V.isB, inI, inB, lz', lt', uz', ut', nc', nn']
    refine ⟨by trivial, ?_⟩
    unfold cutG at h
    cases hs : p.2 with
    | true =>
      rw [hs] at h
      simp only [if_true, Bool.not_true] at h ⊢
      unfold b_format_cut_1
      dsimp only [Bool.not_false, seq, put, ret', iff', ite', cmpT, cmp, cmp2T, cmpP, cmpEq, cmpNe, cmpLt, cmpLe, cmpGt, cmpGe, cmpIs, cmpNot, cmpIn, rd, rdO, cst, bin, binP, binAdd, binSub, binMul, binDiv, binMod, binAnd, binPow, neg, notE, notT, andT, orT, iteT, tt, vB, vOf, andE, orE, cons', nil', tup', lst', ownL, callF, callP, lenP, absP, maxP, minP, intP, bytesP, octs, rangeP, listP, baP, lenO, bytesO, retO, appL, appB, augI, augO, item, itemP, slc, sliceP, pI, pN, rev, meth, findP, joinP, byts, putT, tN, tT, tNil, tCons, putS, sets, for', iterOf, comp', dkI, dkSet, dkNE, dkPop, dkApp, retDk, intsOf, dget, dNil, dCons, seek, skip, never, St.set, isFresh, lim, V.free, frees, V.isNone, V.isB, inI, inB, lz', lt', uz', ut', nc', nn']
      refine ⟨by lia, rec' _ _ _ _ (fun q hq => hm q (List.mem_cons_of_mem _ hq)) (by rw [List.length_append]; lia) fun m' x7' x8' => ?_⟩
      have := h m' x7' x8'
      rw [← List.append_assoc] at this
      exact this
    | false =>
      rw [hs] at h
      simp only [Bool.false_eq_true, if_false, Bool.not_false] at h ⊢
      unfold b_format_cut_1
      dsimp only [Bool.not_true, seq, put, ret', iff', ite', cmpT, cmp, cmp2T, cmpP, cmpEq, cmpNe, cmpLt, cmpLe, cmpGt, cmpGe, cmpIs, cmpNot, cmpIn, rd, rdO, cst, bin, binP, binAdd, binSub, binMul, binDiv, binMod, binAnd, binPow, neg, notE, notT, andT, orT, iteT, tt, vB, vOf, andE, orE, cons', nil', tup', lst', ownL, callF, callP, lenP, absP, maxP, minP, intP, bytesP, octs, rangeP, listP, baP, lenO, bytesO, retO, appL, appB, augI, augO, item, itemP, slc, sliceP, pI, pN, rev, meth, findP, joinP, byts, putT, tN, tT, tNil, tCons, putS, sets, for', iterOf, comp', dkI, dkSet, dkNE, dkPop, dkApp, retDk, intsOf, dget, dNil, dCons, seek, skip, never, St.set, isFresh, lim, V.free, frees, V.isNone, V.isB, inI, inB, lz', lt', uz', ut', nc', nn']
      by_cases h1 : m + 1 > sk
      · by_cases h2 : m + 1 ≤ most + max 0 sk
        · rw [if_pos ⟨h1, h2⟩] at h
          simp only [h1, h2, decide_true]
          refine ⟨by lia, rec' _ _ _ _ (fun q hq => hm q (List.mem_cons_of_mem _ hq)) (by rw [List.length_append]; lia) fun m' x7' x8' => ?_⟩
          have := h m' x7' x8'
          rw [← List.append_assoc] at this
          exact this
        · rw [if_neg (fun x => h2 x.2)] at h
          simp only [h1, h2, decide_true, decide_false]
          exact rec' _ _ _ _ (fun q hq => hm q (List.mem_cons_of_mem _ hq)) (by lia) fun m' x7' x8' => by
            have := h m' x7' x8'
            rw [List.nil_append] at this
            exact this
      · rw [if_neg (fun x => h1 x.1)] at h
        simp only [h1, decide_false]
        exact rec' _ _ _ _ (fun q hq => hm q (List.mem_cons_of_mem _ hq)) (by lia) fun m' x7' x8' => by
          have := h m' x7' x8'
          rw [List.nil_append] at this
          exact this
end

section
set_option exponentiation.threshold 2000
theorem cutP_len (ps : List Piece) (most : Int) (fe : Bool) (h : ∀ p ∈ ps, p ∈ menu6) : (cutP ps most fe).length ≤ 9 * ps.length := cutG_len _ _ ps 0 h
theorem signsN_le (ps : List Piece) : signsN ps ≤ ps.length := List.length_filter_le _ _
noncomputable def Cut : Spec := fun ds dk Q => ∃ (ps : List Piece) (most : Int) (fe : Bool), ds = [.byt (flat ps), .int most, .bool fe] ∧ (∀ p ∈ ps, p ∈ menu6) ∧ ps.length ≤ 10 ∧ Q (.byt (cutP ps most fe)) dk
theorem cut_tail {ps : List Piece} {most sk : Int} {fe : Bool} {dk : Option Deck} {Q : V → Option Deck → Prop} (hm : ∀ p ∈ ps, p ∈ menu6) (hl : ps.length ≤ 10) (h : Q (.byt (cutG sk (most + max 0 sk) 0 ps)) dk) :
    t_format_cut_2 Pieces ⟨[some (.byt (flat ps)), some (.int most), some (.bool fe), some (.lst (ps.map pv)), some (.int sk), none, none, none, none], .fresh, dk⟩ (fin Q) := by
  unfold t_format_cut_2
  dsimp only [List.reverse_cons, List.reverse_nil, List.nil_append, List.cons_append, seq, put, ret', iff', ite', cmpT, cmp, cmp2T, cmpP, cmpEq, cmpNe, cmpLt, cmpLe, cmpGt, cmpGe, cmpIs, cmpNot, cmpIn, rd, rdO, cst, bin, binP, binAdd, binSub, binMul, binDiv, binMod, binAnd, binPow, neg, notE, notT, andT, orT, iteT, tt, vB, vOf, andE, orE, cons', nil', tup', lst', ownL, callF, callP, lenP, absP, maxP, minP, intP, bytesP, octs, rangeP, listP, baP, lenO, bytesO, retO, appL, appB, augI, augO, item, itemP, slc, sliceP, pI, pN, rev, meth, findP, joinP, byts, putT, tN, tT, tNil, tCons, putS, sets, for', iterOf, comp', dkI, dkSet, dkNE, dkPop, dkApp, retDk, intsOf, dget, dNil, dCons, seek, skip, never, St.set, isFresh, lim, V.free, frees, V.isNone, V.isB, inI, inB, lz', lt', uz', ut', nc', nn']
  refine ⟨trivial, by decide, by trivial, ?_⟩
  unfold t_format_cut_3 w_format_cut_1
  dsimp only [seq, put, ret', iff', ite', cmpT, cmp, cmp2T, cmpP, cmpEq, cmpNe, cmpLt, cmpLe, cmpGt, cmpGe, cmpIs, cmpNot, cmpIn, rd, rdO, cst, bin, binP, binAdd, binSub, binMul, binDiv, binMod, binAnd, binPow, neg, notE, notT, andT, orT, iteT, tt, vB, vOf, andE, orE, cons', nil', tup', lst', ownL, callF, callP, lenP, absP, maxP, minP, intP, bytesP, octs, rangeP, listP, baP, lenO, bytesO, retO, appL, appB, augI, augO, item, itemP, slc, sliceP, pI, pN, rev, meth, findP, joinP, byts, putT, tN, tT, tNil, tCons, putS, sets, for', iterOf, comp', dkI, dkSet, dkNE, dkPop, dkApp, retDk, intsOf, dget, dNil, dCons, seek, skip, never, St.set, isFresh, lim, V.free, frees, V.isNone, V.isB, inI, inB, lz', lt', uz', ut', nc', nn']
  refine loop_cut _ _ _ most sk dk _ ps [] 0 none none hm (by simp; lia) fun m' x7' x8' => ?_
  have := cutG_len sk (most + max 0 sk) ps 0 hm
  unfold t_format_cut_4
  dsimp only [List.nil_append, seq, put, ret', iff', ite', cmpT, cmp, cmp2T, cmpP, cmpEq, cmpNe, cmpLt, cmpLe, cmpGt, cmpGe, cmpIs, cmpNot, cmpIn, rd, rdO, cst, bin, binP, binAdd, binSub, binMul, binDiv, binMod, binAnd, binPow, neg, notE, notT, andT, orT, iteT, tt, vB, vOf, andE, orE, cons', nil', tup', lst', ownL, callF, callP, lenP, absP, maxP, minP, intP, bytesP, octs, rangeP, listP, baP, lenO, bytesO, retO, appL, appB, augI, augO, item, itemP, slc, sliceP, pI, pN, rev, meth, findP, joinP, byts, putT, tN, tT, tNil, tCons, putS, sets, for', iterOf, comp', dkI, dkSet, dkNE, dkPop, dkApp, retDk, intsOf, dget, dNil, dCons, seek, skip, never, St.set, isFresh, lim, V.free, frees, V.isNone, V.isB, inI, inB, lz', lt', uz', ut', nc', nn']
  exact ⟨by lia, by trivial, h⟩
theorem fCut {ds dk Q} (h : Cut ds dk Q) : entry Γ_format_cut 3 (sem_format_cut Pieces) ds dk Q := by
  obtain ⟨ps, most, fe, rfl, hm, hl, h⟩ := h
  refine ⟨rfl, ?_⟩
  rw [show start Γ_format_cut [.byt (flat ps), .int most, .bool fe] dk = ⟨[some (.byt (flat ps)), some (.int most), some (.bool fe), none, none, none, none, none, none], .fresh, dk⟩ from rfl]
  show t_format_cut_0 _ _ _
  unfold t_format_cut_0
  dsimp only [seq, put, ret', iff', ite', cmpT, cmp, cmp2T, cmpP, cmpEq, cmpNe, cmpLt, cmpLe, cmpGt, cmpGe, cmpIs, cmpNot, cmpIn, rd, rdO, cst, bin, binP, binAdd, binSub, binMul, binDiv, binMod, binAnd, binPow, neg, notE, notT, andT, orT, iteT, tt, vB, vOf, andE, orE, cons', nil', tup', lst', ownL, callF, callP, lenP, absP, maxP, minP, intP, bytesP, octs, rangeP, listP, baP, lenO, bytesO, retO, appL, appB, augI, augO, item, itemP, slc, sliceP, pI, pN, rev, meth, findP, joinP, byts, putT, tN, tT, tNil, tCons, putS, sets, for', iterOf, comp', dkI, dkSet, dkNE, dkPop, dkApp, retDk, intsOf, dget, dNil, dCons, seek, skip, never, St.set, isFresh, lim, V.free, frees, V.isNone, V.isB, inI, inB, lz', lt', uz', ut', nc', nn']
  refine ⟨by trivial, ps, rfl, hm, hl, ?_⟩
  unfold t_format_cut_1
  dsimp only [seq, put, ret', iff', ite', cmpT, cmp, cmp2T, cmpP, cmpEq, cmpNe, cmpLt, cmpLe, cmpGt, cmpGe, cmpIs, cmpNot, cmpIn, rd, rdO, cst, bin, binP, binAdd, binSub, binMul, binDiv, binMod, binAnd, binPow, neg, notE, notT, andT, orT, iteT, tt, vB, vOf, andE, orE, cons', nil', tup', lst', ownL, callF, callP, lenP, absP, maxP, minP, intP, bytesP, octs, rangeP, listP, baP, lenO, bytesO, retO, appL, appB, augI, augO, item, itemP, slc, sliceP, pI, pN, rev, meth, findP, joinP, byts, putT, tN, tT, tNil, tCons, putS, sets, for', iterOf, comp', dkI, dkSet, dkNE, dkPop, dkApp, retDk, intsOf, dget, dNil, dCons, seek, skip, never, St.set, isFresh, lim, V.free, frees, V.isNone, V.isB, inI, inB, lz', lt', uz', ut', nc', nn']
  unfold cutP at h
  cases fe with
  | false => exact cut_tail hm hl h
  | true =>
    dsimp only
    refine ⟨trivial, ?_⟩
    rw [show ∀ lc, inner Γ_format_cut_1 [] ⟨lc, .fresh, dk⟩ = ⟨[none], .fresh, dk⟩ from fun _ => rfl]
    refine compL_map (fun st => ∃ o, st = ⟨[o], .fresh, dk⟩) isSg id _ _ [] _ ?_ (by simp; lia) ⟨_, rfl⟩ ?_
    · rintro y hy st R ⟨o, rfl⟩ hR
      obtain ⟨p, hp, rfl⟩ := List.mem_map.mp hy
      have hR' := hR ⟨[some (pv p)], .fresh, dk⟩ ⟨_, rfl⟩
      unfold pv at hR' ⊢
      simp only [isSg, id] at hR'
      dsimp only [seq, put, ret', iff', ite', cmpT, cmp, cmp2T, cmpP, cmpEq, cmpNe, cmpLt, cmpLe, cmpGt, cmpGe, cmpIs, cmpNot, cmpIn, rd, rdO, cst, bin, binP, binAdd, binSub, binMul, binDiv, binMod, binAnd, binPow, neg, notE, notT, andT, orT, iteT, tt, vB, vOf, andE, orE, cons', nil', tup', lst', ownL, callF, callP, lenP, absP, maxP, minP, intP, bytesP, octs, rangeP, listP, baP, lenO, bytesO, retO, appL, appB, augI, augO, item, itemP, slc, sliceP, pI, pN, rev, meth, findP, joinP, byts, putT, tN, tT, tNil, tCons, putS, sets, for', iterOf, comp', dkI, dkSet, dkNE, dkPop, dkApp, retDk, intsOf, dget, dNil, dCons, seek, skip, never, St.set, isFresh, lim, V.free, frees, V.isNone, V.isB, inI, inB, lz', lt', uz', ut', nc', nn']
      refine ⟨⟨by decide, by decide⟩, ?_⟩
      cases hb : p.2 with
      | true => rw [hb] at hR'; exact hR'
      | false => rw [hb] at hR'; exact hR'
    · rintro st ⟨o, rfl⟩
      simp only [List.nil_append, List.map_id]
      have := signsN_le ps
      refine ⟨trivial, by rw [sg_len]; lia, ?_⟩
      rw [sg_len]
      exact cut_tail hm hl h

/-- the first of told as a number; the sign behind it -/
structure Told (told : List V) (v : Option Int) (g : List UInt8) : Prop where
  len : told.length ≤ 2
  emp : told = [] → v = Option.none
  hd : ∀ x r, told = x :: r → ∃ b, x = .byt b ∧ b.length ≤ 900 ∧ wholeP b = v
  sign : (told.length ≤ 1 ∧ g = []) ∨ ∃ x, told = [x, .byt g]
  gl : g.length ≤ 10
  small : ∀ i, v = Option.some i → i.natAbs ≤ 300

noncomputable def limP (ps : List Piece) (v : Option Int) (g : List UInt8) : List UInt8 := match v with
  | none => flat ps
  | some i => if i = 0 then flat ps else if (signsN ps : Int) ≤ (i.natAbs : Int) then flat ps else if i < 0 then g ++ cutP ps i.natAbs true else cutP ps i.natAbs false ++ g
noncomputable def Limited : Spec := fun ds dk Q => ∃ (ps : List Piece) (told : List V) (v : Option Int) (g : List UInt8), ds = [.byt (flat ps), .lst told] ∧ (∀ p ∈ ps, p ∈ menu6) ∧ ps.length ≤ 10 ∧ Told told v g ∧ Q (.byt (limP ps v g)) dk
theorem fLimited {ds dk Q} (h : Limited ds dk Q) : entry Γ_format_limited 2 (sem_format_limited Whole Width Cut) ds dk Q := by
  obtain ⟨ps, told, v, g, rfl, hm, hl, ht, h⟩ := h
  refine ⟨rfl, ?_⟩
  rw [show start Γ_format_limited [.byt (flat ps), .lst told] dk = ⟨[some (.byt (flat ps)), some (.lst told), none, none, none, none], .fresh, dk⟩ from rfl]
  have htl := ht.len
  show t_format_limited_0 _ _ _ _ _
  unfold t_format_limited_0
  dsimp only [seq, put, ret', iff', ite', cmpT, cmp, cmp2T, cmpP, cmpEq, cmpNe, cmpLt, cmpLe, cmpGt, cmpGe, cmpIs, cmpNot, cmpIn, rd, rdO, cst, bin, binP, binAdd, binSub, binMul, binDiv, binMod, binAnd, binPow, neg, notE, notT, andT, orT, iteT, tt, vB, vOf, andE, orE, cons', nil', tup', lst', ownL, callF, callP, lenP, absP, maxP, minP, intP, bytesP, octs, rangeP, listP, baP, lenO, bytesO, retO, appL, appB, augI, augO, item, itemP, slc, sliceP, pI, pN, rev, meth, findP, joinP, byts, putT, tN, tT, tNil, tCons, putS, sets, for', iterOf, comp', dkI, dkSet, dkNE, dkPop, dkApp, retDk, intsOf, dget, dNil, dCons, seek, skip, never, St.set, isFresh, lim, V.free, frees, V.isNone, V.isB, inI, inB, lz', lt', uz', ut', nc', nn']
  refine ⟨by decide, by lia, ?_⟩
  -- the number is there
  have k1 : t_format_limited_1 Whole Width Cut ⟨[some (.byt (flat ps)), some (.lst told), some (optI v), none, none, none], .fresh, dk⟩ (fin Q) := by
    unfold t_format_limited_1
    cases hv : v with
    | none =>
      rw [hv] at h
      exact ⟨by trivial, h⟩
    | some i =>
      rw [hv] at h
      unfold limP at h
      dsimp only at h
      have hi := ht.small i hv
      dsimp only [optI, seq, put, ret', iff', ite', cmpT, cmp, cmp2T, cmpP, cmpEq, cmpNe, cmpLt, cmpLe, cmpGt, cmpGe, cmpIs, cmpNot, cmpIn, rd, rdO, cst, bin, binP, binAdd, binSub, binMul, binDiv, binMod, binAnd, binPow, neg, notE, notT, andT, orT, iteT, tt, vB, vOf, andE, orE, cons', nil', tup', lst', ownL, callF, callP, lenP, absP, maxP, minP, intP, bytesP, octs, rangeP, listP, baP, lenO, bytesO, retO, appL, appB, augI, augO, item, itemP, slc, sliceP, pI, pN, rev, meth, findP, joinP, byts, putT, tN, tT, tNil, tCons, putS, sets, for', iterOf, comp', dkI, dkSet, dkNE, dkPop, dkApp, retDk, intsOf, dget, dNil, dCons, seek, skip, never, St.set, isFresh, lim, V.free, frees, V.isNone, V.isB, inI, inB, lz', lt', uz', ut', nc', nn']
      by_cases h0 : i = 0
      · subst h0
        rw [if_pos rfl] at h
        exact ⟨by trivial, h⟩
      · rw [if_neg h0] at h
        rw [show (i == 0) = false by simpa using h0]
        show t_format_limited_2 _ _ _ _ _
        unfold t_format_limited_2
        dsimp only [seq, put, ret', iff', ite', cmpT, cmp, cmp2T, cmpP, cmpEq, cmpNe, cmpLt, cmpLe, cmpGt, cmpGe, cmpIs, cmpNot, cmpIn, rd, rdO, cst, bin, binP, binAdd, binSub, binMul, binDiv, binMod, binAnd, binPow, neg, notE, notT, andT, orT, iteT, tt, vB, vOf, andE, orE, cons', nil', tup', lst', ownL, callF, callP, lenP, absP, maxP, minP, intP, bytesP, octs, rangeP, listP, baP, lenO, bytesO, retO, appL, appB, augI, augO, item, itemP, slc, sliceP, pI, pN, rev, meth, findP, joinP, byts, putT, tN, tT, tNil, tCons, putS, sets, for', iterOf, comp', dkI, dkSet, dkNE, dkPop, dkApp, retDk, intsOf, dget, dNil, dCons, seek, skip, never, St.set, isFresh, lim, V.free, frees, V.isNone, V.isB, inI, inB, lz', lt', uz', ut', nc', nn']
        unfold t_format_limited_3
        dsimp only [seq, put, ret', iff', ite', cmpT, cmp, cmp2T, cmpP, cmpEq, cmpNe, cmpLt, cmpLe, cmpGt, cmpGe, cmpIs, cmpNot, cmpIn, rd, rdO, cst, bin, binP, binAdd, binSub, binMul, binDiv, binMod, binAnd, binPow, neg, notE, notT, andT, orT, iteT, tt, vB, vOf, andE, orE, cons', nil', tup', lst', ownL, callF, callP, lenP, absP, maxP, minP, intP, bytesP, octs, rangeP, listP, baP, lenO, bytesO, retO, appL, appB, augI, augO, item, itemP, slc, sliceP, pI, pN, rev, meth, findP, joinP, byts, putT, tN, tT, tNil, tCons, putS, sets, for', iterOf, comp', dkI, dkSet, dkNE, dkPop, dkApp, retDk, intsOf, dget, dNil, dCons, seek, skip, never, St.set, isFresh, lim, V.free, frees, V.isNone, V.isB, inI, inB, lz', lt', uz', ut', nc', nn']
        refine ⟨by trivial, ps, rfl, hm, hl, ?_⟩
        by_cases h1 : (signsN ps : Int) ≤ (i.natAbs : Int)
        · rw [if_pos h1] at h
          simp only [h1, decide_true]
          exact ⟨by trivial, h⟩
        · rw [if_neg h1] at h
          simp only [h1, decide_false]
          have k5 : t_format_limited_5 Whole Width Cut ⟨[some (.byt (flat ps)), some (.lst told), some (.int i), some (.int i.natAbs), some (.byt g), none], .fresh, dk⟩ (fin Q) := by
            unfold t_format_limited_5
            dsimp only [seq, put, ret', iff', ite', cmpT, cmp, cmp2T, cmpP, cmpEq, cmpNe, cmpLt, cmpLe, cmpGt, cmpGe, cmpIs, cmpNot, cmpIn, rd, rdO, cst, bin, binP, binAdd, binSub, binMul, binDiv, binMod, binAnd, binPow, neg, notE, notT, andT, orT, iteT, tt, vB, vOf, andE, orE, cons', nil', tup', lst', ownL, callF, callP, lenP, absP, maxP, minP, intP, bytesP, octs, rangeP, listP, baP, lenO, bytesO, retO, appL, appB, augI, augO, item, itemP, slc, sliceP, pI, pN, rev, meth, findP, joinP, byts, putT, tN, tT, tNil, tCons, putS, sets, for', iterOf, comp', dkI, dkSet, dkNE, dkPop, dkApp, retDk, intsOf, dget, dNil, dCons, seek, skip, never, St.set, isFresh, lim, V.free, frees, V.isNone, V.isB, inI, inB, lz', lt', uz', ut', nc', nn']
            refine ⟨by trivial, ps, i.natAbs, decide (i < 0), rfl, hm, hl, ?_⟩
            unfold t_format_limited_6
            dsimp only [seq, put, ret', iff', ite', cmpT, cmp, cmp2T, cmpP, cmpEq, cmpNe, cmpLt, cmpLe, cmpGt, cmpGe, cmpIs, cmpNot, cmpIn, rd, rdO, cst, bin, binP, binAdd, binSub, binMul, binDiv, binMod, binAnd, binPow, neg, notE, notT, andT, orT, iteT, tt, vB, vOf, andE, orE, cons', nil', tup', lst', ownL, callF, callP, lenP, absP, maxP, minP, intP, bytesP, octs, rangeP, listP, baP, lenO, bytesO, retO, appL, appB, augI, augO, item, itemP, slc, sliceP, pI, pN, rev, meth, findP, joinP, byts, putT, tN, tT, tNil, tCons, putS, sets, for', iterOf, comp', dkI, dkSet, dkNE, dkPop, dkApp, retDk, intsOf, dget, dNil, dCons, seek, skip, never, St.set, isFresh, lim, V.free, frees, V.isNone, V.isB, inI, inB, lz', lt', uz', ut', nc', nn']
            have hc := cutP_len ps i.natAbs (decide (i < 0)) hm
            have hg := ht.gl
            by_cases h2 : i < 0
            · rw [if_pos h2] at h
              simp only [h2, decide_true] at hc ⊢
              exact ⟨by lia, by trivial, h⟩
            · rw [if_neg h2] at h
              simp only [h2, decide_false] at hc ⊢
              exact ⟨by lia, by trivial, h⟩
          unfold t_format_limited_4
          dsimp only [seq, put, ret', iff', ite', cmpT, cmp, cmp2T, cmpP, cmpEq, cmpNe, cmpLt, cmpLe, cmpGt, cmpGe, cmpIs, cmpNot, cmpIn, rd, rdO, cst, bin, binP, binAdd, binSub, binMul, binDiv, binMod, binAnd, binPow, neg, notE, notT, andT, orT, iteT, tt, vB, vOf, andE, orE, cons', nil', tup', lst', ownL, callF, callP, lenP, absP, maxP, minP, intP, bytesP, octs, rangeP, listP, baP, lenO, bytesO, retO, appL, appB, augI, augO, item, itemP, slc, sliceP, pI, pN, rev, meth, findP, joinP, byts, putT, tN, tT, tNil, tCons, putS, sets, for', iterOf, comp', dkI, dkSet, dkNE, dkPop, dkApp, retDk, intsOf, dget, dNil, dCons, seek, skip, never, St.set, isFresh, lim, V.free, frees, V.isNone, V.isB, inI, inB, lz', lt', uz', ut', nc', nn']
          refine ⟨by lia, ?_⟩
          rcases ht.sign with ⟨hlen, hg⟩ | ⟨x, hx⟩
          · rw [show decide ((told.length : Int) > 1) = false from decide_eq_false (by lia)]
            rw [hg] at k5
            exact k5
          · rw [hx] at k5 ⊢
            exact ⟨⟨by decide, by decide⟩, k5⟩
  cases hte : told with
  | nil =>
    have := ht.emp hte
    rw [this] at k1
    rw [hte] at k1
    exact k1
  | cons x r =>
    obtain ⟨b, rfl, hb, hw⟩ := ht.hd x r hte
    rw [hte] at k1
    refine ⟨⟨by decide, by decide⟩, by trivial, b, rfl, hb, ?_⟩
    rw [hw]
    exact k1

noncomputable def fillP (ps : List Piece) (v : Option Int) : List UInt8 := match v with
  | none => flat ps
  | some i => if i ≥ 0 then flat ps ++ List.replicate (i.natAbs - signsN ps) 32 else List.replicate (i.natAbs - signsN ps) 32 ++ flat ps
noncomputable def Filled : Spec := fun ds dk Q => ∃ (ps : List Piece) (told : List V) (v : Option Int) (g : List UInt8), ds = [.byt (flat ps), .lst told] ∧ (∀ p ∈ ps, p ∈ menu6) ∧ ps.length ≤ 10 ∧ Told told v g ∧ Q (.byt (fillP ps v)) dk
theorem rep_one (n : Nat) : (List.replicate n ([32] : List UInt8)).flatten = List.replicate n 32 := by
  induction n with
  | zero => rfl
  | succ n ih => rw [List.replicate_succ, List.flatten_cons, ih, List.replicate_succ]; rfl
theorem fFilled {ds dk Q} (h : Filled ds dk Q) : entry Γ_format_filled 2 (sem_format_filled Whole Width) ds dk Q := by
  obtain ⟨ps, told, v, g, rfl, hm, hl, ht, h⟩ := h
  refine ⟨rfl, ?_⟩
  rw [show start Γ_format_filled [.byt (flat ps), .lst told] dk = ⟨[some (.byt (flat ps)), some (.lst told), none, none], .fresh, dk⟩ from rfl]
  have htl := ht.len
  have hfl := flat_len ps hm
  have hsn := signsN_le ps
  show t_format_filled_0 _ _ _ _
  unfold t_format_filled_0
  dsimp only [seq, put, ret', iff', ite', cmpT, cmp, cmp2T, cmpP, cmpEq, cmpNe, cmpLt, cmpLe, cmpGt, cmpGe, cmpIs, cmpNot, cmpIn, rd, rdO, cst, bin, binP, binAdd, binSub, binMul, binDiv, binMod, binAnd, binPow, neg, notE, notT, andT, orT, iteT, tt, vB, vOf, andE, orE, cons', nil', tup', lst', ownL, callF, callP, lenP, absP, maxP, minP, intP, bytesP, octs, rangeP, listP, baP, lenO, bytesO, retO, appL, appB, augI, augO, item, itemP, slc, sliceP, pI, pN, rev, meth, findP, joinP, byts, putT, tN, tT, tNil, tCons, putS, sets, for', iterOf, comp', dkI, dkSet, dkNE, dkPop, dkApp, retDk, intsOf, dget, dNil, dCons, seek, skip, never, St.set, isFresh, lim, V.free, frees, V.isNone, V.isB, inI, inB, lz', lt', uz', ut', nc', nn']
  refine ⟨by decide, by lia, ?_⟩
  have k1 : t_format_filled_1 Whole Width ⟨[some (.byt (flat ps)), some (.lst told), some (optI v), none], .fresh, dk⟩ (fin Q) := by
    unfold t_format_filled_1
    cases hv : v with
    | none =>
      rw [hv] at h
      exact ⟨by trivial, h⟩
    | some i =>
      rw [hv] at h
      unfold fillP at h
      dsimp only at h
      have hi := ht.small i hv
      dsimp only [optI, seq, put, ret', iff', ite', cmpT, cmp, cmp2T, cmpP, cmpEq, cmpNe, cmpLt, cmpLe, cmpGt, cmpGe, cmpIs, cmpNot, cmpIn, rd, rdO, cst, bin, binP, binAdd, binSub, binMul, binDiv, binMod, binAnd, binPow, neg, notE, notT, andT, orT, iteT, tt, vB, vOf, andE, orE, cons', nil', tup', lst', ownL, callF, callP, lenP, absP, maxP, minP, intP, bytesP, octs, rangeP, listP, baP, lenO, bytesO, retO, appL, appB, augI, augO, item, itemP, slc, sliceP, pI, pN, rev, meth, findP, joinP, byts, putT, tN, tT, tNil, tCons, putS, sets, for', iterOf, comp', dkI, dkSet, dkNE, dkPop, dkApp, retDk, intsOf, dget, dNil, dCons, seek, skip, never, St.set, isFresh, lim, V.free, frees, V.isNone, V.isB, inI, inB, lz', lt', uz', ut', nc', nn']
      unfold t_format_filled_2
      dsimp only [seq, put, ret', iff', ite', cmpT, cmp, cmp2T, cmpP, cmpEq, cmpNe, cmpLt, cmpLe, cmpGt, cmpGe, cmpIs, cmpNot, cmpIn, rd, rdO, cst, bin, binP, binAdd, binSub, binMul, binDiv, binMod, binAnd, binPow, neg, notE, notT, andT, orT, iteT, tt, vB, vOf, andE, orE, cons', nil', tup', lst', ownL, callF, callP, lenP, absP, maxP, minP, intP, bytesP, octs, rangeP, listP, baP, lenO, bytesO, retO, appL, appB, augI, augO, item, itemP, slc, sliceP, pI, pN, rev, meth, findP, joinP, byts, putT, tN, tT, tNil, tCons, putS, sets, for', iterOf, comp', dkI, dkSet, dkNE, dkPop, dkApp, retDk, intsOf, dget, dNil, dCons, seek, skip, never, St.set, isFresh, lim, V.free, frees, V.isNone, V.isB, inI, inB, lz', lt', uz', ut', nc', nn']
      refine ⟨by trivial, ps, rfl, hm, hl, ?_⟩
      have e : max 0 (min ((i.natAbs : Nat) : Int) 10000 - (signsN ps : Int)) = ((i.natAbs - signsN ps : Nat) : Int) := by lia
      simp only [e]
      refine ⟨⟨by simp, by lia, by lia, by simp⟩, ?_⟩
      rw [Int.toNat_natCast, rep_one]
      unfold t_format_filled_3
      dsimp only [seq, put, ret', iff', ite', cmpT, cmp, cmp2T, cmpP, cmpEq, cmpNe, cmpLt, cmpLe, cmpGt, cmpGe, cmpIs, cmpNot, cmpIn, rd, rdO, cst, bin, binP, binAdd, binSub, binMul, binDiv, binMod, binAnd, binPow, neg, notE, notT, andT, orT, iteT, tt, vB, vOf, andE, orE, cons', nil', tup', lst', ownL, callF, callP, lenP, absP, maxP, minP, intP, bytesP, octs, rangeP, listP, baP, lenO, bytesO, retO, appL, appB, augI, augO, item, itemP, slc, sliceP, pI, pN, rev, meth, findP, joinP, byts, putT, tN, tT, tNil, tCons, putS, sets, for', iterOf, comp', dkI, dkSet, dkNE, dkPop, dkApp, retDk, intsOf, dget, dNil, dCons, seek, skip, never, St.set, isFresh, lim, V.free, frees, V.isNone, V.isB, inI, inB, lz', lt', uz', ut', nc', nn']
      by_cases h0 : i ≥ 0
      · rw [if_pos h0] at h
        simp only [h0, decide_true]
        exact ⟨by rw [List.length_replicate]; lia, by trivial, h⟩
      · rw [if_neg h0] at h
        simp only [h0, decide_false]
        exact ⟨by rw [List.length_replicate]; lia, by trivial, h⟩
  cases hte : told with
  | nil =>
    have := ht.emp hte
    rw [this] at k1
    rw [hte] at k1
    exact k1
  | cons x r =>
    obtain ⟨b, rfl, hb, hw⟩ := ht.hd x r hte
    rw [hte] at k1
    refine ⟨⟨by decide, by decide⟩, by trivial, b, rfl, hb, ?_⟩
    rw [hw]
    exact k1
end

section
set_option exponentiation.threshold 2000
noncomputable def lv (p : Piece) : V := .tup [.byt p.1, .bool p.2]
noncomputable def nv (k : Nat) : V := .int k
noncomputable def styleAt (ps : List Piece) (k : Nat) : Bool := ((ps[k]?).map (·.2)).getD true
noncomputable def textAt (ps : List Piece) (k : Nat) : List UInt8 := ((ps[k]?).map (·.1)).getD []
theorem idx_range (ps₀ : List Piece) : ∀ (ps : List Piece) (i : Nat), ps₀.drop i = ps → (List.range' i ps.length).filter (fun k => !styleAt ps₀ k) = idx i ps
  | [], _, _ => rfl
  | p :: r, i, h => by
    have h0 : ps₀[i]? = some p := by have := get_dropP h 0; simpa using this
    have hr : ps₀.drop (i + 1) = r := by rw [← List.drop_drop, h]; rfl
    rw [List.length_cons, List.range'_succ]
    have hs : styleAt ps₀ i = p.2 := by unfold styleAt; rw [h0]; rfl
    unfold idx
    cases hp : p.2 with
    | true => rw [List.filter_cons_of_neg (by rw [hs, hp]; decide), if_pos rfl, idx_range ps₀ r (i + 1) hr]
    | false => rw [List.filter_cons_of_pos (by rw [hs, hp]; decide), if_neg (by decide), idx_range ps₀ r (i + 1) hr]
where
  get_dropP {ps₀ ps : List Piece} {i : Nat} (h : ps₀.drop i = ps) (j : Nat) : ps₀[i + j]? = ps[j]? := by rw [← h, List.getElem?_drop]
theorem law_range (ps₀ : List Piece) (kept : List Nat) : ∀ (ps : List Piece) (i : Nat), ps₀.drop i = ps → (((List.range' i ps.length).filter (fun k => styleAt ps₀ k || kept.contains k)).map (textAt ps₀)).flatten = lawG kept i ps
  | [], _, _ => rfl
  | p :: r, i, h => by
    have h0 : ps₀[i]? = some p := by have := idx_range.get_dropP h 0; simpa using this
    have hr : ps₀.drop (i + 1) = r := by rw [← List.drop_drop, h]; rfl
    rw [List.length_cons, List.range'_succ]
    have hs : styleAt ps₀ i = p.2 := by unfold styleAt; rw [h0]; rfl
    have ht : textAt ps₀ i = p.1 := by unfold textAt; rw [h0]; rfl
    unfold lawG
    cases hb : (p.2 || kept.contains i) with
    | true => rw [List.filter_cons_of_pos (by rw [hs]; exact hb), if_pos rfl, List.map_cons, List.flatten_cons, ht, law_range ps₀ kept r (i + 1) hr]
    | false => rw [List.filter_cons_of_neg (by rw [hs, hb]; decide), if_neg (by decide), law_range ps₀ kept r (i + 1) hr]; rfl
theorem inI_map (x : Int) : ∀ (ks : List Nat) (R : Bool → Prop), R (ks.any fun j => (j : Int) == x) → inI x (ks.map nv) R
  | [], R, h => h
  | k :: ks, R, h => by
    simp only [List.map_cons, nv, inI]
    exact inI_map x ks (fun b => R ((k : Int) == x || b)) (by simpa using h)
theorem any_contains (ks : List Nat) (k : Nat) : (ks.any fun j => (j : Int) == (k : Int)) = ks.contains k := by
  induction ks with
  | nil => rfl
  | cons j r ih =>
    rw [List.any_cons, List.contains_cons, ih]
    congr 1
    rw [Bool.eq_iff_iff, beq_iff_eq, beq_iff_eq]
    lia

noncomputable def LawCut : Spec := fun ds dk Q => ∃ (ps : List Piece) (most : Nat) (fe : Bool), ds = [.lst (ps.map lv), .int most, .bool fe] ∧ (∀ p ∈ ps, p ∈ menu6) ∧ ps.length ≤ 10 ∧ Q (.byt (cutP ps most fe)) dk
theorem lawcut_end {ps : List Piece} {most : Nat} {fe : Bool} {kept : List Nat} {dk : Option Deck} {x3 : Option V} {Q : V → Option Deck → Prop} (hm : ∀ p ∈ ps, p ∈ menu6) (hl : ps.length ≤ 10) (h : Q (.byt (lawG kept 0 ps)) dk) :
    t__law_cut_2 ⟨[some (.lst (ps.map lv)), some (.int most), some (.bool fe), x3, some (.lst (kept.map nv))], .fresh, dk⟩ (fin Q) := by
  unfold t__law_cut_2
  dsimp only [seq, put, ret', iff', ite', cmpT, cmp, cmp2T, cmpP, cmpEq, cmpNe, cmpLt, cmpLe, cmpGt, cmpGe, cmpIs, cmpNot, cmpIn, rd, rdO, cst, bin, binP, binAdd, binSub, binMul, binDiv, binMod, binAnd, binPow, neg, notE, notT, andT, orT, iteT, tt, vB, vOf, andE, orE, cons', nil', tup', lst', ownL, callF, callP, lenP, absP, maxP, minP, intP, bytesP, octs, rangeP, listP, baP, lenO, bytesO, retO, appL, appB, augI, augO, item, itemP, slc, sliceP, pI, pN, rev, meth, findP, joinP, byts, putT, tN, tT, tNil, tCons, putS, sets, for', comp', dkI, dkSet, dkNE, dkPop, dkApp, retDk, intsOf, dget, dNil, dCons, seek, skip, never, St.set, isFresh, lim, V.free, frees, V.isNone, V.isB, inI, inB, lz', lt', uz', ut', nc', nn']
  refine ⟨by trivial, by rw [List.length_map]; lia, ?_⟩
  rw [List.length_map, iter_rng (by lia), Int.toNat_natCast]
  refine ⟨trivial, ?_⟩
  rw [show ∀ a b c d, inner Γ__law_cut_2 [4, 0] ⟨[a, b, c, d, some (.lst (kept.map nv))], .fresh, dk⟩ = ⟨[some (.lst (kept.map nv)), a, none], .fresh, dk⟩ from fun _ _ _ _ => rfl]
  refine compL_map (fun st => ∃ o, st = ⟨[some (.lst (kept.map nv)), some (.lst (ps.map lv)), o], .fresh, dk⟩) (fun x => match x with | .int i => styleAt ps i.toNat || kept.contains i.toNat | _ => false) (fun x => match x with | .int i => .byt (textAt ps i.toNat) | x => x) _ _ [] _ ?_ (by simp; lia) ⟨_, rfl⟩ ?_
  · rintro y hy st R ⟨o, rfl⟩ hR
    obtain ⟨k, hk, rfl⟩ := List.mem_map.mp hy
    have hkl := List.mem_range.mp hk
    have hp : ps[k]? = some ps[k] := List.getElem?_eq_getElem hkl
    have hs : styleAt ps k = ps[k].2 := by unfold styleAt; rw [hp]; rfl
    have ht : textAt ps k = ps[k].1 := by unfold textAt; rw [hp]; rfl
    have hR' := hR ⟨[some (.lst (kept.map nv)), some (.lst (ps.map lv)), some (.int k)], .fresh, dk⟩ ⟨_, rfl⟩
    simp only [Int.toNat_natCast, hs, ht] at hR'
    dsimp only [seq, put, ret', iff', ite', cmpT, cmp, cmp2T, cmpP, cmpEq, cmpNe, cmpLt, cmpLe, cmpGt, cmpGe, cmpIs, cmpNot, cmpIn, rd, rdO, cst, bin, binP, binAdd, binSub, binMul, binDiv, binMod, binAnd, binPow, neg, notE, notT, andT, orT, iteT, tt, vB, vOf, andE, orE, cons', nil', tup', lst', ownL, callF, callP, lenP, absP, maxP, minP, intP, bytesP, octs, rangeP, listP, baP, lenO, bytesO, retO, appL, appB, augI, augO, item, itemP, slc, sliceP, pI, pN, rev, meth, findP, joinP, byts, putT, tN, tT, tNil, tCons, putS, sets, for', comp', dkI, dkSet, dkNE, dkPop, dkApp, retDk, intsOf, dget, dNil, dCons, seek, skip, never, St.set, isFresh, lim, V.free, frees, V.isNone, V.isB, inI, inB, lz', lt', uz', ut', nc', nn']
    rw [Int.toNat_natCast, List.getElem?_map, hp]
    refine ⟨⟨by lia, by lia⟩, ⟨by decide, by decide⟩, ?_⟩
    cases hb : ps[k].2 with
    | true =>
      rw [hb] at hR'
      exact ⟨⟨by lia, by lia⟩, ⟨by decide, by decide⟩, hR'⟩
    | false =>
      rw [hb] at hR'
      refine inI_map _ kept _ ?_
      rw [any_contains]
      cases hc : kept.contains k with
      | true =>
        rw [hc] at hR'
        exact ⟨⟨by lia, by lia⟩, ⟨by decide, by decide⟩, hR'⟩
      | false =>
        rw [hc] at hR'
        exact hR'
  · rintro st ⟨o, rfl⟩
    simp only [List.nil_append]
    refine ⟨trivial, ?_⟩
    have e : (List.filter (fun x => match x with | .int i => styleAt ps i.toNat || kept.contains i.toNat | _ => false) ((List.range ps.length).map fun (j : Nat) => V.int j)).map (fun x => match x with | V.int i => V.byt (textAt ps i.toNat) | x => x) =
        ((List.range ps.length).filter fun k => styleAt ps k || kept.contains k).map fun k => V.byt (textAt ps k) := by
      rw [List.filter_map, List.map_map]
      rfl
    rw [e]
    have fl := law_range ps kept ps 0 rfl
    rw [← List.range_eq_range'] at fl
    have hlen := lawG_len kept ps 0 hm
    refine byts_map _ (textAt ps) _ ⟨?_, ?_⟩
    · rw [← List.length_flatten, fl]; simp only [List.length_nil, Nat.zero_mul, Nat.add_zero]; lia
    · rw [joinL_flat, fl]
      exact ⟨by trivial, h⟩
theorem fLawCut {ds dk Q} (h : LawCut ds dk Q) : entry Γ__law_cut 3 sem__law_cut ds dk Q := by
  obtain ⟨ps, most, fe, rfl, hm, hl, h⟩ := h
  refine ⟨rfl, ?_⟩
  rw [show start Γ__law_cut [.lst (ps.map lv), .int most, .bool fe] dk = ⟨[some (.lst (ps.map lv)), some (.int most), some (.bool fe), none, none], .fresh, dk⟩ from rfl]
  show t__law_cut_0 _ _
  unfold t__law_cut_0
  dsimp only [seq, put, ret', iff', ite', cmpT, cmp, cmp2T, cmpP, cmpEq, cmpNe, cmpLt, cmpLe, cmpGt, cmpGe, cmpIs, cmpNot, cmpIn, rd, rdO, cst, bin, binP, binAdd, binSub, binMul, binDiv, binMod, binAnd, binPow, neg, notE, notT, andT, orT, iteT, tt, vB, vOf, andE, orE, cons', nil', tup', lst', ownL, callF, callP, lenP, absP, maxP, minP, intP, bytesP, octs, rangeP, listP, baP, lenO, bytesO, retO, appL, appB, augI, augO, item, itemP, slc, sliceP, pI, pN, rev, meth, findP, joinP, byts, putT, tN, tT, tNil, tCons, putS, sets, for', comp', dkI, dkSet, dkNE, dkPop, dkApp, retDk, intsOf, dget, dNil, dCons, seek, skip, never, St.set, isFresh, lim, V.free, frees, V.isNone, V.isB, inI, inB, lz', lt', uz', ut', nc', nn']
  refine ⟨by rw [List.length_map]; lia, ?_⟩
  rw [List.length_map, iter_rng (by lia), Int.toNat_natCast]
  refine ⟨trivial, ?_⟩
  rw [show ∀ a b c d e, inner Γ__law_cut_1 [0] ⟨[a, b, c, d, e], .fresh, dk⟩ = ⟨[a, none], .fresh, dk⟩ from fun _ _ _ _ _ => rfl]
  refine compL_map (fun st => ∃ o, st = ⟨[some (.lst (ps.map lv)), o], .fresh, dk⟩) (fun x => match x with | .int i => !styleAt ps i.toNat | _ => false) id _ _ [] _ ?_ (by simp; lia) ⟨_, rfl⟩ ?_
  · rintro y hy st R ⟨o, rfl⟩ hR
    obtain ⟨k, hk, rfl⟩ := List.mem_map.mp hy
    have hkl := List.mem_range.mp hk
    have hp : ps[k]? = some ps[k] := List.getElem?_eq_getElem hkl
    have hs : styleAt ps k = ps[k].2 := by unfold styleAt; rw [hp]; rfl
    have hR' := hR ⟨[some (.lst (ps.map lv)), some (.int k)], .fresh, dk⟩ ⟨_, rfl⟩
    simp only [Int.toNat_natCast, hs, id] at hR'
    dsimp only [seq, put, ret', iff', ite', cmpT, cmp, cmp2T, cmpP, cmpEq, cmpNe, cmpLt, cmpLe, cmpGt, cmpGe, cmpIs, cmpNot, cmpIn, rd, rdO, cst, bin, binP, binAdd, binSub, binMul, binDiv, binMod, binAnd, binPow, neg, notE, notT, andT, orT, iteT, tt, vB, vOf, andE, orE, cons', nil', tup', lst', ownL, callF, callP, lenP, absP, maxP, minP, intP, bytesP, octs, rangeP, listP, baP, lenO, bytesO, retO, appL, appB, augI, augO, item, itemP, slc, sliceP, pI, pN, rev, meth, findP, joinP, byts, putT, tN, tT, tNil, tCons, putS, sets, for', comp', dkI, dkSet, dkNE, dkPop, dkApp, retDk, intsOf, dget, dNil, dCons, seek, skip, never, St.set, isFresh, lim, V.free, frees, V.isNone, V.isB, inI, inB, lz', lt', uz', ut', nc', nn']
    rw [Int.toNat_natCast, List.getElem?_map, hp]
    refine ⟨⟨by lia, by lia⟩, ⟨by decide, by decide⟩, ?_⟩
    cases hb : ps[k].2 with
    | true => rw [hb] at hR'; exact hR'
    | false => rw [hb] at hR'; exact hR'
  · rintro st ⟨o, rfl⟩
    have e : (List.filter (fun x => match x with | .int i => !styleAt ps i.toNat | _ => false) ((List.range ps.length).map fun (j : Nat) => V.int j)).map id = (idx 0 ps).map nv := by
      rw [List.map_id, List.filter_map, ← idx_range ps ps 0 rfl, ← List.range_eq_range']
      rfl
    rw [List.nil_append, e]
    have hil := idx_length ps 0
    have hsl := signsN_le ps
    refine ⟨trivial, ?_⟩
    rw [cutP_law] at h
    unfold t__law_cut_1
    dsimp only [seq, put, ret', iff', ite', cmpT, cmp, cmp2T, cmpP, cmpEq, cmpNe, cmpLt, cmpLe, cmpGt, cmpGe, cmpIs, cmpNot, cmpIn, rd, rdO, cst, bin, binP, binAdd, binSub, binMul, binDiv, binMod, binAnd, binPow, neg, notE, notT, andT, orT, iteT, tt, vB, vOf, andE, orE, cons', nil', tup', lst', ownL, callF, callP, lenP, absP, maxP, minP, intP, bytesP, octs, rangeP, listP, baP, lenO, bytesO, retO, appL, appB, augI, augO, item, itemP, slc, sliceP, pI, pN, rev, meth, findP, joinP, byts, putT, tN, tT, tNil, tCons, putS, sets, for', comp', dkI, dkSet, dkNE, dkPop, dkApp, retDk, intsOf, dget, dNil, dCons, seek, skip, never, St.set, isFresh, lim, V.free, frees, V.isNone, V.isB, inI, inB, lz', lt', uz', ut', nc', nn']
    cases fe with
    | true =>
      rw [if_pos rfl] at h
      dsimp only
      refine ⟨by rw [List.length_map]; lia, by rw [List.length_map]; lia, ?_⟩
      rw [List.length_map, hil, show max 0 ((signsN ps : Int) - (most : Int)) = ((signsN ps - most : Nat) : Int) by lia, cut_from, ← List.map_drop]
      exact lawcut_end hm hl h
    | false =>
      rw [if_neg (by decide)] at h
      dsimp only
      refine ⟨by rw [List.length_map]; lia, ?_⟩
      rw [cut_to, ← List.map_take]
      exact lawcut_end hm hl h
end

section
set_option exponentiation.threshold 2000
theorem listedP : ∀ (xs : List V) , (∀ x ∈ xs, ∃ p ∈ menu6, x = lv p) → ∃ ps : List Piece, xs = ps.map lv ∧ ∀ p ∈ ps, p ∈ menu6
  | [], _ => ⟨[], rfl, fun _ h => nomatch h⟩
  | x :: xs, h => by
    obtain ⟨p, hp, rfl⟩ := h x List.mem_cons_self
    obtain ⟨ps, rfl, hb⟩ := listedP xs fun y hy => h y (List.mem_cons_of_mem _ hy)
    exact ⟨p :: ps, rfl, fun q hq => by rcases List.mem_cons.mp hq with rfl | hq; exact hp; exact hb q hq⟩
theorem frees_lv : ∀ ps : List Piece, frees (ps.map lv) = true
  | [] => rfl
  | p :: ps => by
    simp only [List.map_cons, frees, frees_lv ps, Bool.and_true]
    rfl
theorem told_nil : Told [] none [] := ⟨by simp, fun _ => rfl, (fun _ _ h => nomatch h), .inl ⟨by simp, rfl⟩, by simp, fun _ h => nomatch h⟩
theorem told_one {b : List UInt8} {v : Option Int} (h : Says b v) : Told [.byt b] v [] :=
  ⟨by simp, (fun h => nomatch h), fun x r e => by cases e; exact ⟨b, rfl, h.len, h.whole⟩, .inl ⟨by simp, rfl⟩, by simp, h.small⟩
theorem told_two {b g : List UInt8} {v : Option Int} (h : Says b v) (hg : g.length ≤ 10) : Told [.byt b, .byt g] v g :=
  ⟨by simp, (fun h => nomatch h), fun x r e => by cases e; exact ⟨b, rfl, h.len, h.whole⟩, .inr ⟨_, rfl⟩, hg, h.small⟩
theorem says_x : Says [120] none := ⟨by decide, by decide, fun _ e => nomatch e⟩
theorem limP_len (ps : List Piece) (v : Option Int) (g : List UInt8) (hm : ∀ p ∈ ps, p ∈ menu6) (hg : g.length ≤ 10) : (limP ps v g).length ≤ 9 * ps.length + 10 := by
  have := flat_len ps hm
  unfold limP
  cases v with
  | none => dsimp only; lia
  | some i =>
    dsimp only
    have h1 := cutP_len ps i.natAbs true hm
    have h2 := cutP_len ps i.natAbs false hm
    split
    · lia
    · split
      · lia
      · split <;> rw [List.length_append] <;> lia

section
variable (t : Int)
abbrev R8 (t : Int) := t__law_cut_right_8 (Draw t) (Pick t) Width LawCut Dec Limited Filled Cut
abbrev cst' (ps : List Piece) (n : Int) (sg : Option (List UInt8)) (due : List UInt8) (x8 x9 x10 x11 x12 : Option V) (d : Deck) : St :=
  ⟨[some .deck, some (.lst (menu6.map lv)), some (.lst (ps.map lv)), some (.byt (flat ps)), some (.int (signsN ps)), some (.int n), some (letV sg), some (.byt due), x8, x9, x10, x11, x12, none], .fresh, some d⟩
theorem cut_end {t : Int} {ps : List Piece} {n : Int} {sg : Option (List UInt8)} {x8 x9 : Option V} {d : Deck} {Q : V → Option Deck → Prop} (hm : ∀ p ∈ ps, p ∈ menu6) (hl : ps.length ≤ 10) (hn : n.natAbs ≤ 4) (hg : (sg.getD []).length ≤ 10) (hd : Dk t d) (hQ : ∀ d', Q (.bool true) (some d'))
    {told : List V} (ht : Told told (some n) (sg.getD [])) (hfr : frees told = true) :
    R8 t (cst' ps n sg (limP ps (some n) (sg.getD [])) x8 x9 (some (.lst told)) none none d) (fin Q) := by
  have hfl := flat_len ps hm
  have hsn := signsN_le ps
  have hff : ∀ x : V, x.free = true → frees [.byt (flat ps), x] = true := fun x h => by simp [frees, V.free, h]
  have el : limP ps none [] = flat ps := rfl
  unfold R8 t__law_cut_right_8
  dsimp only [seq, put, ret', iff', ite', cmpT, cmp, cmp2T, cmpP, cmpEq, cmpNe, cmpLt, cmpLe, cmpGt, cmpGe, cmpIs, cmpNot, cmpIn, rd, rdO, cst, bin, binP, binAdd, binSub, binMul, binDiv, binMod, binAnd, binPow, neg, notE, notT, andT, orT, iteT, tt, vB, vOf, andE, orE, cons', nil', tup', lst', ownL, callF, callP, lenP, absP, maxP, minP, intP, bytesP, octs, rangeP, listP, baP, lenO, bytesO, retO, appL, appB, augI, augO, item, itemP, slc, sliceP, pI, pN, rev, meth, findP, joinP, byts, putT, tN, tT, tNil, tCons, putS, sets, for', iterOf, comp', dkI, dkSet, dkNE, dkPop, dkApp, retDk, intsOf, dget, dNil, dCons, seek, skip, never, St.set, isFresh, lim, V.free, frees, V.isNone, V.isB, inI, inB, lz', lt', uz', ut', nc', nn']
  refine ⟨by simpa using hfr, ps, told, some n, sg.getD [], rfl, hm, hl, ht, ?_⟩
  simp only [bne_self_eq_false]
  refine ⟨by decide, by trivial, ps, [], none, [], rfl, hm, hl, told_nil, ?_⟩
  simp only [el, bne_self_eq_false]
  refine ⟨by decide, by trivial, ps, [.byt [120]], none, [], rfl, hm, hl, told_one says_x, ?_⟩
  simp only [el, bne_self_eq_false]
  show t__law_cut_right_9 _ _ _ _ _ _ _ _ _ _
  unfold t__law_cut_right_9
  dsimp only [seq, put, ret', iff', ite', cmpT, cmp, cmp2T, cmpP, cmpEq, cmpNe, cmpLt, cmpLe, cmpGt, cmpGe, cmpIs, cmpNot, cmpIn, rd, rdO, cst, bin, binP, binAdd, binSub, binMul, binDiv, binMod, binAnd, binPow, neg, notE, notT, andT, orT, iteT, tt, vB, vOf, andE, orE, cons', nil', tup', lst', ownL, callF, callP, lenP, absP, maxP, minP, intP, bytesP, octs, rangeP, listP, baP, lenO, bytesO, retO, appL, appB, augI, augO, item, itemP, slc, sliceP, pI, pN, rev, meth, findP, joinP, byts, putT, tN, tT, tNil, tCons, putS, sets, for', iterOf, comp', dkI, dkSet, dkNE, dkPop, dkApp, retDk, intsOf, dget, dNil, dCons, seek, skip, never, St.set, isFresh, lim, V.free, frees, V.isNone, V.isB, inI, inB, lz', lt', uz', ut', nc', nn']
  refine ⟨⟨by simp, by lia, by lia, by simp⟩, ?_⟩
  rw [show ((n.natAbs : Nat) : Int) + 2 - ((signsN ps : Nat) : Int) = ((n.natAbs : Int) + 2 - (signsN ps : Int)) from rfl, show ((n.natAbs : Int) + 2 - (signsN ps : Int)).toNat = n.natAbs + 2 - signsN ps by lia, rep_one]
  unfold t__law_cut_right_10
  dsimp only [seq, put, ret', iff', ite', cmpT, cmp, cmp2T, cmpP, cmpEq, cmpNe, cmpLt, cmpLe, cmpGt, cmpGe, cmpIs, cmpNot, cmpIn, rd, rdO, cst, bin, binP, binAdd, binSub, binMul, binDiv, binMod, binAnd, binPow, neg, notE, notT, andT, orT, iteT, tt, vB, vOf, andE, orE, cons', nil', tup', lst', ownL, callF, callP, lenP, absP, maxP, minP, intP, bytesP, octs, rangeP, listP, baP, lenO, bytesO, retO, appL, appB, augI, augO, item, itemP, slc, sliceP, pI, pN, rev, meth, findP, joinP, byts, putT, tN, tT, tNil, tCons, putS, sets, for', iterOf, comp', dkI, dkSet, dkNE, dkPop, dkApp, retDk, intsOf, dget, dNil, dCons, seek, skip, never, St.set, isFresh, lim, V.free, frees, V.isNone, V.isB, inI, inB, lz', lt', uz', ut', nc', nn']
  rw [show ((n.natAbs : Nat) : Int) + 2 = ((n.natAbs + 2 : Nat) : Int) by lia]
  unfold t__law_cut_right_11
  dsimp only [seq, put, ret', iff', ite', cmpT, cmp, cmp2T, cmpP, cmpEq, cmpNe, cmpLt, cmpLe, cmpGt, cmpGe, cmpIs, cmpNot, cmpIn, rd, rdO, cst, bin, binP, binAdd, binSub, binMul, binDiv, binMod, binAnd, binPow, neg, notE, notT, andT, orT, iteT, tt, vB, vOf, andE, orE, cons', nil', tup', lst', ownL, callF, callP, lenP, absP, maxP, minP, intP, bytesP, octs, rangeP, listP, baP, lenO, bytesO, retO, appL, appB, augI, augO, item, itemP, slc, sliceP, pI, pN, rev, meth, findP, joinP, byts, putT, tN, tT, tNil, tCons, putS, sets, for', iterOf, comp', dkI, dkSet, dkNE, dkPop, dkApp, retDk, intsOf, dget, dNil, dCons, seek, skip, never, St.set, isFresh, lim, V.free, frees, V.isNone, V.isB, inI, inB, lz', lt', uz', ut', nc', nn']
  have e1 : fillP ps (some ((n.natAbs + 2 : Nat) : Int)) = flat ps ++ List.replicate (n.natAbs + 2 - signsN ps) 32 := by
    unfold fillP; dsimp only; rw [if_pos (by lia)]; rfl
  have e2 : fillP ps (some (0 - ((n.natAbs + 2 : Nat) : Int))) = List.replicate (n.natAbs + 2 - signsN ps) 32 ++ flat ps := by
    unfold fillP; dsimp only; rw [if_neg (by lia), show (0 - ((n.natAbs + 2 : Nat) : Int)).natAbs = n.natAbs + 2 by lia]
  refine ⟨by trivial, _, rfl, big 1000 (by lia), by decide, by trivial, ps, _, some ((n.natAbs + 2 : Nat) : Int), [], rfl, hm, hl, told_one (says_dec (by lia)), ?_⟩
  simp only [e1]
  refine ⟨by rw [List.length_replicate]; lia, ?_⟩
  simp only [bne_self_eq_false]
  refine ⟨by trivial, _, rfl, big 1000 (by lia), by decide, by trivial, ps, _, some (0 - ((n.natAbs + 2 : Nat) : Int)), [], rfl, hm, hl, told_one (says_dec (by lia)), ?_⟩
  simp only [e2]
  refine ⟨by rw [List.length_replicate]; lia, ?_⟩
  simp only [bne_self_eq_false]
  show t__law_cut_right_12 _ _ _ _ _ _ _ _ _ _
  unfold t__law_cut_right_12
  dsimp only [seq, put, ret', iff', ite', cmpT, cmp, cmp2T, cmpP, cmpEq, cmpNe, cmpLt, cmpLe, cmpGt, cmpGe, cmpIs, cmpNot, cmpIn, rd, rdO, cst, bin, binP, binAdd, binSub, binMul, binDiv, binMod, binAnd, binPow, neg, notE, notT, andT, orT, iteT, tt, vB, vOf, andE, orE, cons', nil', tup', lst', ownL, callF, callP, lenP, absP, maxP, minP, intP, bytesP, octs, rangeP, listP, baP, lenO, bytesO, retO, appL, appB, augI, augO, item, itemP, slc, sliceP, pI, pN, rev, meth, findP, joinP, byts, putT, tN, tT, tNil, tCons, putS, sets, for', iterOf, comp', dkI, dkSet, dkNE, dkPop, dkApp, retDk, intsOf, dget, dNil, dCons, seek, skip, never, St.set, isFresh, lim, V.free, frees, V.isNone, V.isB, inI, inB, lz', lt', uz', ut', nc', nn']
  refine ⟨by trivial, 2, d, rfl, by decide, by decide, rfl, hd, fun r d₁ h0 h1 hd₁ ht₁ => ?_⟩
  unfold t__law_cut_right_13
  dsimp only [seq, put, ret', iff', ite', cmpT, cmp, cmp2T, cmpP, cmpEq, cmpNe, cmpLt, cmpLe, cmpGt, cmpGe, cmpIs, cmpNot, cmpIn, rd, rdO, cst, bin, binP, binAdd, binSub, binMul, binDiv, binMod, binAnd, binPow, neg, notE, notT, andT, orT, iteT, tt, vB, vOf, andE, orE, cons', nil', tup', lst', ownL, callF, callP, lenP, absP, maxP, minP, intP, bytesP, octs, rangeP, listP, baP, lenO, bytesO, retO, appL, appB, augI, augO, item, itemP, slc, sliceP, pI, pN, rev, meth, findP, joinP, byts, putT, tN, tT, tNil, tCons, putS, sets, for', iterOf, comp', dkI, dkSet, dkNE, dkPop, dkApp, retDk, intsOf, dget, dNil, dCons, seek, skip, never, St.set, isFresh, lim, V.free, frees, V.isNone, V.isB, inI, inB, lz', lt', uz', ut', nc', nn']
  refine ⟨by trivial, ps, _, _, rfl, hm, hl, by simp [frees_lv], ps, n.natAbs, _, rfl, hm, hl, ?_⟩
  simp only [beq_self_eq_true]
  exact ⟨by trivial, hQ _⟩
end

theorem cut_told {t : Int} {ps : List Piece} {n : Int} {sg : Option (List UInt8)} {x8 x9 : Option V} {d : Deck} {Q : V → Option Deck → Prop} (hm : ∀ p ∈ ps, p ∈ menu6) (hl : ps.length ≤ 10) (hn : n.natAbs ≤ 4) (hg : (sg.getD []).length ≤ 10) (hd : Dk t d) (hQ : ∀ d', Q (.bool true) (some d')) :
    t__law_cut_right_7 (Draw t) (Pick t) Width LawCut Dec Limited Filled Cut (cst' ps n sg (limP ps (some n) (sg.getD [])) x8 x9 none none none d) (fin Q) := by
  unfold t__law_cut_right_7
  cases sg with
  | none =>
    dsimp only [letV, seq, put, ret', iff', ite', cmpT, cmp, cmp2T, cmpP, cmpEq, cmpNe, cmpLt, cmpLe, cmpGt, cmpGe, cmpIs, cmpNot, cmpIn, rd, rdO, cst, bin, binP, binAdd, binSub, binMul, binDiv, binMod, binAnd, binPow, neg, notE, notT, andT, orT, iteT, tt, vB, vOf, andE, orE, cons', nil', tup', lst', ownL, callF, callP, lenP, absP, maxP, minP, intP, bytesP, octs, rangeP, listP, baP, lenO, bytesO, retO, appL, appB, augI, augO, item, itemP, slc, sliceP, pI, pN, rev, meth, findP, joinP, byts, putT, tN, tT, tNil, tCons, putS, sets, for', iterOf, comp', dkI, dkSet, dkNE, dkPop, dkApp, retDk, intsOf, dget, dNil, dCons, seek, skip, never, St.set, isFresh, lim, V.free, frees, V.isNone, V.isB, inI, inB, lz', lt', uz', ut', nc', nn']
    exact ⟨by trivial, n, rfl, big 1000 (by lia), by decide, by decide, by decide, cut_end (sg := none) hm hl hn hg hd hQ (told_one (says_dec (by lia))) rfl⟩
  | some g =>
    dsimp only [letV, seq, put, ret', iff', ite', cmpT, cmp, cmp2T, cmpP, cmpEq, cmpNe, cmpLt, cmpLe, cmpGt, cmpGe, cmpIs, cmpNot, cmpIn, rd, rdO, cst, bin, binP, binAdd, binSub, binMul, binDiv, binMod, binAnd, binPow, neg, notE, notT, andT, orT, iteT, tt, vB, vOf, andE, orE, cons', nil', tup', lst', ownL, callF, callP, lenP, absP, maxP, minP, intP, bytesP, octs, rangeP, listP, baP, lenO, bytesO, retO, appL, appB, augI, augO, item, itemP, slc, sliceP, pI, pN, rev, meth, findP, joinP, byts, putT, tN, tT, tNil, tCons, putS, sets, for', iterOf, comp', dkI, dkSet, dkNE, dkPop, dkApp, retDk, intsOf, dget, dNil, dCons, seek, skip, never, St.set, isFresh, lim, V.free, frees, V.isNone, V.isB, inI, inB, lz', lt', uz', ut', nc', nn']
    exact ⟨by trivial, n, rfl, big 1000 (by lia), by decide, by decide, by decide, cut_end (sg := some g) hm hl hn hg hd hQ (told_two (says_dec (by lia)) hg) rfl⟩
theorem cut_due {t : Int} {ps : List Piece} {n : Int} {sg : Option (List UInt8)} {d : Deck} {Q : V → Option Deck → Prop} (hm : ∀ p ∈ ps, p ∈ menu6) (hl : ps.length ≤ 10) (hn : n.natAbs ≤ 4) (hg : (sg.getD []).length ≤ 10) (hd : Dk t d) (hQ : ∀ d', Q (.bool true) (some d')) :
    t__law_cut_right_6 (Draw t) (Pick t) Width LawCut Dec Limited Filled Cut (cst' ps n sg (flat ps) none none none none none d) (fin Q) := by
  have K := fun (x8 x9 : Option V) => cut_told (t := t) (x8 := x8) (x9 := x9) (d := d) (Q := Q) hm hl hn hg hd hQ
  unfold t__law_cut_right_6
  unfold limP at K
  dsimp only at K
  dsimp only [seq, put, ret', iff', ite', cmpT, cmp, cmp2T, cmpP, cmpEq, cmpNe, cmpLt, cmpLe, cmpGt, cmpGe, cmpIs, cmpNot, cmpIn, rd, rdO, cst, bin, binP, binAdd, binSub, binMul, binDiv, binMod, binAnd, binPow, neg, notE, notT, andT, orT, iteT, tt, vB, vOf, andE, orE, cons', nil', tup', lst', ownL, callF, callP, lenP, absP, maxP, minP, intP, bytesP, octs, rangeP, listP, baP, lenO, bytesO, retO, appL, appB, augI, augO, item, itemP, slc, sliceP, pI, pN, rev, meth, findP, joinP, byts, putT, tN, tT, tNil, tCons, putS, sets, for', iterOf, comp', dkI, dkSet, dkNE, dkPop, dkApp, retDk, intsOf, dget, dNil, dCons, seek, skip, never, St.set, isFresh, lim, V.free, frees, V.isNone, V.isB, inI, inB, lz', lt', uz', ut', nc', nn']
  by_cases h1 : (signsN ps : Int) > (n.natAbs : Int)
  · simp only [h1, decide_true]
    by_cases h2 : (n.natAbs : Int) > 0
    · simp only [h2, decide_true]
      rw [if_neg (by lia), if_neg (by lia)] at K
      unfold c__law_cut_right_1
      dsimp only [seq, put, ret', iff', ite', cmpT, cmp, cmp2T, cmpP, cmpEq, cmpNe, cmpLt, cmpLe, cmpGt, cmpGe, cmpIs, cmpNot, cmpIn, rd, rdO, cst, bin, binP, binAdd, binSub, binMul, binDiv, binMod, binAnd, binPow, neg, notE, notT, andT, orT, iteT, tt, vB, vOf, andE, orE, cons', nil', tup', lst', ownL, callF, callP, lenP, absP, maxP, minP, intP, bytesP, octs, rangeP, listP, baP, lenO, bytesO, retO, appL, appB, augI, augO, item, itemP, slc, sliceP, pI, pN, rev, meth, findP, joinP, byts, putT, tN, tT, tNil, tCons, putS, sets, for', iterOf, comp', dkI, dkSet, dkNE, dkPop, dkApp, retDk, intsOf, dget, dNil, dCons, seek, skip, never, St.set, isFresh, lim, V.free, frees, V.isNone, V.isB, inI, inB, lz', lt', uz', ut', nc', nn']
      refine ⟨by simp [frees_lv], ps, n.natAbs, _, rfl, hm, hl, ?_⟩
      have hc := cutP_len ps n.natAbs (decide (n < 0)) hm
      cases sg with
      | none =>
        dsimp only [letV, seq, put, ret', iff', ite', cmpT, cmp, cmp2T, cmpP, cmpEq, cmpNe, cmpLt, cmpLe, cmpGt, cmpGe, cmpIs, cmpNot, cmpIn, rd, rdO, cst, bin, binP, binAdd, binSub, binMul, binDiv, binMod, binAnd, binPow, neg, notE, notT, andT, orT, iteT, tt, vB, vOf, andE, orE, cons', nil', tup', lst', ownL, callF, callP, lenP, absP, maxP, minP, intP, bytesP, octs, rangeP, listP, baP, lenO, bytesO, retO, appL, appB, augI, augO, item, itemP, slc, sliceP, pI, pN, rev, meth, findP, joinP, byts, putT, tN, tT, tNil, tCons, putS, sets, for', iterOf, comp', dkI, dkSet, dkNE, dkPop, dkApp, retDk, intsOf, dget, dNil, dCons, seek, skip, never, St.set, isFresh, lim, V.free, frees, V.isNone, V.isB, inI, inB, lz', lt', uz', ut', nc', nn']
        by_cases h3 : n < 0
        · rw [if_pos h3] at K
          simp only [h3, decide_true] at hc ⊢
          exact ⟨by simp; lia, K _ _⟩
        · rw [if_neg h3] at K
          simp only [h3, decide_false] at hc ⊢
          exact ⟨by simp; lia, K _ _⟩
      | some g =>
        have hg' : g.length ≤ 10 := hg
        dsimp only [letV, seq, put, ret', iff', ite', cmpT, cmp, cmp2T, cmpP, cmpEq, cmpNe, cmpLt, cmpLe, cmpGt, cmpGe, cmpIs, cmpNot, cmpIn, rd, rdO, cst, bin, binP, binAdd, binSub, binMul, binDiv, binMod, binAnd, binPow, neg, notE, notT, andT, orT, iteT, tt, vB, vOf, andE, orE, cons', nil', tup', lst', ownL, callF, callP, lenP, absP, maxP, minP, intP, bytesP, octs, rangeP, listP, baP, lenO, bytesO, retO, appL, appB, augI, augO, item, itemP, slc, sliceP, pI, pN, rev, meth, findP, joinP, byts, putT, tN, tT, tNil, tCons, putS, sets, for', iterOf, comp', dkI, dkSet, dkNE, dkPop, dkApp, retDk, intsOf, dget, dNil, dCons, seek, skip, never, St.set, isFresh, lim, V.free, frees, V.isNone, V.isB, inI, inB, lz', lt', uz', ut', nc', nn']
        by_cases h3 : n < 0
        · rw [if_pos h3] at K
          simp only [h3, decide_true] at hc ⊢
          exact ⟨by lia, K _ _⟩
        · rw [if_neg h3] at K
          simp only [h3, decide_false] at hc ⊢
          exact ⟨by lia, K _ _⟩
    · simp only [h2, decide_false]
      rw [if_pos (by lia)] at K
      exact K _ _
  · simp only [h1, decide_false]
    have : ∀ a b : List UInt8, (if n = 0 then a else if (signsN ps : Int) ≤ (n.natAbs : Int) then a else b) = a := fun a b => by
      split
      · rfl
      · rw [if_pos (by lia)]
    rw [this] at K
    exact K _ _
noncomputable def isPl : V → Bool
  | .tup [.byt _, .bool b] => !b
  | _ => false
noncomputable def txt : V → V
  | .tup (x :: _) => x
  | x => x
theorem fCutRight {t : Int} {ds dk Q} (h : Right t ds dk Q) : entry Γ__law_cut_right 1 (sem__law_cut_right (Draw (t + 20)) (Pick (t + 20)) Width LawCut Dec Limited Filled Cut) ds dk Q := by
  obtain ⟨d, rfl, rfl, hd, h⟩ := h
  refine ⟨rfl, ?_⟩
  rw [show start Γ__law_cut_right [.deck] (some d) = ⟨[some .deck, none, none, none, none, none, none, none, none, none, none, none, none, none], .fresh, some d⟩ from rfl]
  have hdt := hd.hi
  show t__law_cut_right_0 _ _ _ _ _ _ _ _ _ _
  unfold t__law_cut_right_0
  dsimp only [seq, put, ret', iff', ite', cmpT, cmp, cmp2T, cmpP, cmpEq, cmpNe, cmpLt, cmpLe, cmpGt, cmpGe, cmpIs, cmpNot, cmpIn, rd, rdO, cst, bin, binP, binAdd, binSub, binMul, binDiv, binMod, binAnd, binPow, neg, notE, notT, andT, orT, iteT, tt, vB, vOf, andE, orE, cons', nil', tup', lst', ownL, callF, callP, lenP, absP, maxP, minP, intP, bytesP, octs, rangeP, listP, baP, lenO, bytesO, retO, appL, appB, augI, augO, item, itemP, slc, sliceP, pI, pN, rev, meth, findP, joinP, byts, putT, tN, tT, tNil, tCons, putS, sets, for', comp', dkI, dkSet, dkNE, dkPop, dkApp, retDk, intsOf, dget, dNil, dCons, seek, skip, never, St.set, isFresh, lim, V.free, frees, V.isNone, V.isB, inI, inB, lz', lt', uz', ut', nc', nn']
  refine ⟨by decide, by decide, by decide, by decide, by decide, by decide, by decide, ?_⟩
  show t__law_cut_right_1 _ _ _ _ _ _ _ _ ⟨[some .deck, some (.lst (menu6.map lv)), none, none, none, none, none, none, none, none, none, none, none, none], .fresh, some d⟩ _
  unfold t__law_cut_right_1
  dsimp only [seq, put, ret', iff', ite', cmpT, cmp, cmp2T, cmpP, cmpEq, cmpNe, cmpLt, cmpLe, cmpGt, cmpGe, cmpIs, cmpNot, cmpIn, rd, rdO, cst, bin, binP, binAdd, binSub, binMul, binDiv, binMod, binAnd, binPow, neg, notE, notT, andT, orT, iteT, tt, vB, vOf, andE, orE, cons', nil', tup', lst', ownL, callF, callP, lenP, absP, maxP, minP, intP, bytesP, octs, rangeP, listP, baP, lenO, bytesO, retO, appL, appB, augI, augO, item, itemP, slc, sliceP, pI, pN, rev, meth, findP, joinP, byts, putT, tN, tT, tNil, tCons, putS, sets, for', comp', dkI, dkSet, dkNE, dkPop, dkApp, retDk, intsOf, dget, dNil, dCons, seek, skip, never, St.set, isFresh, lim, V.free, frees, V.isNone, V.isB, inI, inB, lz', lt', uz', ut', nc', nn']
  refine ⟨by trivial, 7, d, rfl, by decide, by decide, rfl, hd.mono (by lia), fun r d₁ h0 h1 hd₁ ht₁ => ?_⟩
  dsimp only
  rw [iter_rng ⟨h0, by lia⟩]
  refine ⟨trivial, ?_⟩
  rw [show ∀ a b lc, inner Γ__law_cut_right_1 [0, 1] ⟨a :: b :: lc, .fresh, some d₁⟩ = ⟨[a, b, none], .fresh, some d₁⟩ from fun _ _ _ => rfl]
  refine compL_any (fun k st => ∃ o d', st = ⟨[some .deck, some (.lst (menu6.map lv)), o], .fresh, some d'⟩ ∧ Dk (d.turn + 1 + k) d') (fun x => ∃ p ∈ menu6, x = lv p) 7 _ _ [] 0 _ (by simp; lia) ?_ (by simp; lia) ⟨_, _, rfl, hd₁.mono (by lia)⟩ ?_
  · rintro y hy k st R hk ⟨o, d', rfl, hd'⟩ hR
    dsimp only [seq, put, ret', iff', ite', cmpT, cmp, cmp2T, cmpP, cmpEq, cmpNe, cmpLt, cmpLe, cmpGt, cmpGe, cmpIs, cmpNot, cmpIn, rd, rdO, cst, bin, binP, binAdd, binSub, binMul, binDiv, binMod, binAnd, binPow, neg, notE, notT, andT, orT, iteT, tt, vB, vOf, andE, orE, cons', nil', tup', lst', ownL, callF, callP, lenP, absP, maxP, minP, intP, bytesP, octs, rangeP, listP, baP, lenO, bytesO, retO, appL, appB, augI, augO, item, itemP, slc, sliceP, pI, pN, rev, meth, findP, joinP, byts, putT, tN, tT, tNil, tCons, putS, sets, for', comp', dkI, dkSet, dkNE, dkPop, dkApp, retDk, intsOf, dget, dNil, dCons, seek, skip, never, St.set, isFresh, lim, V.free, frees, V.isNone, V.isB, inI, inB, lz', lt', uz', ut', nc', nn']
    have := hd'.hi
    refine ⟨by trivial, _, d', rfl, by decide, by decide, ?_, rfl, hd'.mono (by lia), fun x hx d₂ hd₂ ht₂ => ?_⟩
    · intro x hx
      obtain ⟨p, _, rfl⟩ := List.mem_map.mp hx
      rfl
    · obtain ⟨p, hp, rfl⟩ := List.mem_map.mp hx
      exact hR _ _ ⟨p, hp, rfl⟩ ⟨_, d₂, rfl, hd₂.mono (by lia)⟩
  · rintro xs st hxl hx ⟨o, d', rfl, hd'⟩
    obtain ⟨ps, rfl, hm⟩ := listedP xs hx
    simp only [List.length_map, List.length_range] at hxl hd'
    have hdt' := hd'.hi
    have hl : ps.length ≤ 10 := by lia
    have hfl := flat_len ps hm
    have hsn := signsN_le ps
    simp only [List.nil_append]
    refine ⟨trivial, ?_⟩
    show t__law_cut_right_2 _ _ _ _ _ _ _ _ ⟨[some .deck, some (.lst (menu6.map lv)), some (.lst (ps.map lv)), none, none, none, none, none, none, none, none, none, none, none], .fresh, some d'⟩ _
    unfold t__law_cut_right_2
    dsimp only [List.reverse_cons, List.reverse_nil, List.cons_append, seq, put, ret', iff', ite', cmpT, cmp, cmp2T, cmpP, cmpEq, cmpNe, cmpLt, cmpLe, cmpGt, cmpGe, cmpIs, cmpNot, cmpIn, rd, rdO, cst, bin, binP, binAdd, binSub, binMul, binDiv, binMod, binAnd, binPow, neg, notE, notT, andT, orT, iteT, tt, vB, vOf, andE, orE, cons', nil', tup', lst', ownL, callF, callP, lenP, absP, maxP, minP, intP, bytesP, octs, rangeP, listP, baP, lenO, bytesO, retO, appL, appB, augI, augO, item, itemP, slc, sliceP, pI, pN, rev, meth, findP, joinP, byts, putT, tN, tT, tNil, tCons, putS, sets, for', iterOf, comp', dkI, dkSet, dkNE, dkPop, dkApp, retDk, intsOf, dget, dNil, dCons, seek, skip, never, St.set, isFresh, lim, V.free, frees, V.isNone, V.isB, inI, inB, lz', lt', uz', ut', nc', nn']
    refine ⟨by trivial, trivial, ?_⟩
    rw [show ∀ lc, inner Γ__law_cut_right_2 [] ⟨lc, .fresh, some d'⟩ = ⟨[none], .fresh, some d'⟩ from fun _ => rfl]
    refine compL_map (fun st => ∃ o, st = ⟨[o], .fresh, some d'⟩) (fun _ => true) txt _ _ [] _ ?_ (by simp; lia) ⟨_, rfl⟩ ?_
    · rintro y hy st R ⟨o, rfl⟩ hR
      obtain ⟨p, hp, rfl⟩ := List.mem_map.mp hy
      have hR' := hR ⟨[some (lv p)], .fresh, some d'⟩ ⟨_, rfl⟩
      simp only [if_true] at hR'
      unfold lv at hR' ⊢
      dsimp only [seq, put, ret', iff', ite', cmpT, cmp, cmp2T, cmpP, cmpEq, cmpNe, cmpLt, cmpLe, cmpGt, cmpGe, cmpIs, cmpNot, cmpIn, rd, rdO, cst, bin, binP, binAdd, binSub, binMul, binDiv, binMod, binAnd, binPow, neg, notE, notT, andT, orT, iteT, tt, vB, vOf, andE, orE, cons', nil', tup', lst', ownL, callF, callP, lenP, absP, maxP, minP, intP, bytesP, octs, rangeP, listP, baP, lenO, bytesO, retO, appL, appB, augI, augO, item, itemP, slc, sliceP, pI, pN, rev, meth, findP, joinP, byts, putT, tN, tT, tNil, tCons, putS, sets, for', iterOf, comp', dkI, dkSet, dkNE, dkPop, dkApp, retDk, intsOf, dget, dNil, dCons, seek, skip, never, St.set, isFresh, lim, V.free, frees, V.isNone, V.isB, inI, inB, lz', lt', uz', ut', nc', nn']
      exact ⟨⟨by decide, by decide⟩, hR'⟩
    · rintro st ⟨o, rfl⟩
      simp only [List.nil_append, filter_tt, List.map_map]
      refine ⟨trivial, ?_⟩
      show byts (ps.map fun p => .byt p.1) _
      refine byts_map ps (·.1) _ ⟨?_, ?_⟩
      · rw [← List.length_flatten]; simp only [List.length_nil, Nat.zero_mul, Nat.add_zero]; show (flat ps).length ≤ _; lia
      rw [joinL_flat, show (ps.map (·.1)).flatten = flat ps from rfl]
      refine ⟨trivial, ?_⟩
      rw [show ∀ lc, inner Γ__law_cut_right_3 [] ⟨lc, .fresh, some d'⟩ = ⟨[none], .fresh, some d'⟩ from fun _ => rfl]
      refine compL_map (fun st => ∃ o, st = ⟨[o], .fresh, some d'⟩) isPl id _ _ [] _ ?_ (by simp; lia) ⟨_, rfl⟩ ?_
      · rintro y hy st R ⟨o, rfl⟩ hR
        obtain ⟨p, hp, rfl⟩ := List.mem_map.mp hy
        have hR' := hR ⟨[some (lv p)], .fresh, some d'⟩ ⟨_, rfl⟩
        unfold lv at hR' ⊢
        simp only [isPl, id] at hR'
        dsimp only [seq, put, ret', iff', ite', cmpT, cmp, cmp2T, cmpP, cmpEq, cmpNe, cmpLt, cmpLe, cmpGt, cmpGe, cmpIs, cmpNot, cmpIn, rd, rdO, cst, bin, binP, binAdd, binSub, binMul, binDiv, binMod, binAnd, binPow, neg, notE, notT, andT, orT, iteT, tt, vB, vOf, andE, orE, cons', nil', tup', lst', ownL, callF, callP, lenP, absP, maxP, minP, intP, bytesP, octs, rangeP, listP, baP, lenO, bytesO, retO, appL, appB, augI, augO, item, itemP, slc, sliceP, pI, pN, rev, meth, findP, joinP, byts, putT, tN, tT, tNil, tCons, putS, sets, for', iterOf, comp', dkI, dkSet, dkNE, dkPop, dkApp, retDk, intsOf, dget, dNil, dCons, seek, skip, never, St.set, isFresh, lim, V.free, frees, V.isNone, V.isB, inI, inB, lz', lt', uz', ut', nc', nn']
        refine ⟨⟨by decide, by decide⟩, ?_⟩
        cases hb : p.2 with
        | true => rw [hb] at hR'; exact hR'
        | false => rw [hb] at hR'; exact hR'
      · rintro st ⟨o, rfl⟩
        have hpl : ((ps.map lv).filter isPl).length = signsN ps := by rw [List.filter_map, List.length_map]; rfl
        simp only [List.nil_append, List.map_id, hpl]
        refine ⟨trivial, by lia, by decide, by trivial, ?_⟩
        show t__law_cut_right_3 _ _ _ _ _ _ _ _ ⟨[some .deck, some (.lst (menu6.map lv)), some (.lst (ps.map lv)), some (.byt (flat ps)), some (.int (signsN ps)), none, none, none, none, none, none, none, none, none], .fresh, some d'⟩ _
        unfold t__law_cut_right_3
        dsimp only [List.reverse_cons, List.reverse_nil, List.nil_append, List.cons_append, seq, put, ret', iff', ite', cmpT, cmp, cmp2T, cmpP, cmpEq, cmpNe, cmpLt, cmpLe, cmpGt, cmpGe, cmpIs, cmpNot, cmpIn, rd, rdO, cst, bin, binP, binAdd, binSub, binMul, binDiv, binMod, binAnd, binPow, neg, notE, notT, andT, orT, iteT, tt, vB, vOf, andE, orE, cons', nil', tup', lst', ownL, callF, callP, lenP, absP, maxP, minP, intP, bytesP, octs, rangeP, listP, baP, lenO, bytesO, retO, appL, appB, augI, augO, item, itemP, slc, sliceP, pI, pN, rev, meth, findP, joinP, byts, putT, tN, tT, tNil, tCons, putS, sets, for', iterOf, comp', dkI, dkSet, dkNE, dkPop, dkApp, retDk, intsOf, dget, dNil, dCons, seek, skip, never, St.set, isFresh, lim, V.free, frees, V.isNone, V.isB, inI, inB, lz', lt', uz', ut', nc', nn']
        refine ⟨by trivial, 9, d', rfl, by decide, by decide, rfl, hd'.mono (by lia), fun r' d₂ h0' h1' hd₂ ht₂ => ?_⟩
        have hdt₂ := hd₂.hi
        refine ⟨by decide, by trivial, _, d₂, rfl, by simp, by simp, ?_, rfl, hd₂.mono (by lia), fun x hx d₃ hd₃ ht₃ => ?_⟩
        · intro x hx
          simp only [List.mem_cons, List.not_mem_nil, or_false] at hx
          rcases hx with rfl | rfl | rfl <;> rfl
        obtain ⟨sg, rfl, hg⟩ : ∃ sg : Option (List UInt8), x = letV sg ∧ (sg.getD []).length ≤ 10 := by
          simp only [List.mem_cons, List.not_mem_nil, or_false] at hx
          rcases hx with rfl | rfl | rfl
          · exact ⟨none, rfl, by decide⟩
          · exact ⟨some [46, 46], rfl, by decide⟩
          · exact ⟨some [195, 169], rfl, by decide⟩
        refine ⟨by decide, by trivial, ?_⟩
        show t__law_cut_right_4 _ _ _ _ _ _ _ _ ⟨[some .deck, some (.lst (menu6.map lv)), some (.lst (ps.map lv)), some (.byt (flat ps)), some (.int (signsN ps)), some (.int (r' - 4)), some (letV sg), none, none, none, none, none, none, none], .fresh, some d₃⟩ _
        unfold t__law_cut_right_4
        dsimp only [seq, put, ret', iff', ite', cmpT, cmp, cmp2T, cmpP, cmpEq, cmpNe, cmpLt, cmpLe, cmpGt, cmpGe, cmpIs, cmpNot, cmpIn, rd, rdO, cst, bin, binP, binAdd, binSub, binMul, binDiv, binMod, binAnd, binPow, neg, notE, notT, andT, orT, iteT, tt, vB, vOf, andE, orE, cons', nil', tup', lst', ownL, callF, callP, lenP, absP, maxP, minP, intP, bytesP, octs, rangeP, listP, baP, lenO, bytesO, retO, appL, appB, augI, augO, item, itemP, slc, sliceP, pI, pN, rev, meth, findP, joinP, byts, putT, tN, tT, tNil, tCons, putS, sets, for', iterOf, comp', dkI, dkSet, dkNE, dkPop, dkApp, retDk, intsOf, dget, dNil, dCons, seek, skip, never, St.set, isFresh, lim, V.free, frees, V.isNone, V.isB, inI, inB, lz', lt', uz', ut', nc', nn']
        refine ⟨by trivial, ps, rfl, hm, hl, ?_⟩
        simp only [bne_self_eq_false]
        unfold t__law_cut_right_5
        dsimp only [seq, put, ret', iff', ite', cmpT, cmp, cmp2T, cmpP, cmpEq, cmpNe, cmpLt, cmpLe, cmpGt, cmpGe, cmpIs, cmpNot, cmpIn, rd, rdO, cst, bin, binP, binAdd, binSub, binMul, binDiv, binMod, binAnd, binPow, neg, notE, notT, andT, orT, iteT, tt, vB, vOf, andE, orE, cons', nil', tup', lst', ownL, callF, callP, lenP, absP, maxP, minP, intP, bytesP, octs, rangeP, listP, baP, lenO, bytesO, retO, appL, appB, augI, augO, item, itemP, slc, sliceP, pI, pN, rev, meth, findP, joinP, byts, putT, tN, tT, tNil, tCons, putS, sets, for', iterOf, comp', dkI, dkSet, dkNE, dkPop, dkApp, retDk, intsOf, dget, dNil, dCons, seek, skip, never, St.set, isFresh, lim, V.free, frees, V.isNone, V.isB, inI, inB, lz', lt', uz', ut', nc', nn']
        exact cut_due (n := r' - 4) hm hl (by lia) hg (hd₃.mono (by lia)) h
end

section
noncomputable def LawS : Spec := fun ds dk Q => ∃ ns : List Int, ds = [.lst (ns.map V.int)] ∧ ns.length ≤ 63 ∧ dk = none ∧ ∀ d', Q (.bool true) (some d')
theorem fLaw {ds dk Q} (h : LawS ds dk Q) : entry Γ_law 1 (sem_law DeckS (Draw 0) (Right 1) (Right 1) (Right 1) (Right 1) (Right 1) (Right 1)) ds dk Q := by
  obtain ⟨ns, rfl, hl, rfl, h⟩ := h
  refine ⟨rfl, ?_⟩
  rw [show start Γ_law [.lst (ns.map V.int)] none = ⟨[some (.lst (ns.map V.int)), none, none], .fresh, none⟩ from rfl]
  have hfr : ∀ ns : List Int, frees (ns.map V.int) = true := by
    intro ns
    induction ns with
    | nil => rfl
    | cons n r ih => simp only [List.map_cons, frees, ih]; rfl
  show t_law_0 _ _ _ _ _ _ _ _ _ _
  unfold t_law_0
  dsimp only [seq, put, ret', iff', ite', cmpT, cmp, cmp2T, cmpP, cmpEq, cmpNe, cmpLt, cmpLe, cmpGt, cmpGe, cmpIs, cmpNot, cmpIn, rd, rdO, cst, bin, binP, binAdd, binSub, binMul, binDiv, binMod, binAnd, binPow, neg, notE, notT, andT, orT, iteT, tt, vB, vOf, andE, orE, cons', nil', tup', lst', ownL, callF, callP, lenP, absP, maxP, minP, intP, bytesP, octs, rangeP, listP, baP, lenO, bytesO, retO, appL, appB, augI, augO, item, itemP, slc, sliceP, pI, pN, rev, meth, findP, joinP, byts, putT, tN, tT, tNil, tCons, putS, sets, for', iterOf, comp', dkI, dkSet, dkNE, dkPop, dkApp, retDk, intsOf, dget, dNil, dCons, seek, skip, never, St.set, isFresh, lim, V.free, frees, V.isNone, V.isB, inI, inB, lz', lt', uz', ut', nc', nn']
  refine ⟨by rw [hfr]; rfl, ns, rfl, hl, rfl, fun d hd => ?_⟩
  unfold t_law_1
  dsimp only [seq, put, ret', iff', ite', cmpT, cmp, cmp2T, cmpP, cmpEq, cmpNe, cmpLt, cmpLe, cmpGt, cmpGe, cmpIs, cmpNot, cmpIn, rd, rdO, cst, bin, binP, binAdd, binSub, binMul, binDiv, binMod, binAnd, binPow, neg, notE, notT, andT, orT, iteT, tt, vB, vOf, andE, orE, cons', nil', tup', lst', ownL, callF, callP, lenP, absP, maxP, minP, intP, bytesP, octs, rangeP, listP, baP, lenO, bytesO, retO, appL, appB, augI, augO, item, itemP, slc, sliceP, pI, pN, rev, meth, findP, joinP, byts, putT, tN, tT, tNil, tCons, putS, sets, for', iterOf, comp', dkI, dkSet, dkNE, dkPop, dkApp, retDk, intsOf, dget, dNil, dCons, seek, skip, never, St.set, isFresh, lim, V.free, frees, V.isNone, V.isB, inI, inB, lz', lt', uz', ut', nc', nn']
  refine ⟨by trivial, 6, d, rfl, by decide, by decide, rfl, hd, fun r d₁ h0 h1 hd₁ ht₁ => ?_⟩
  have hdt := hd.hi
  have hd₁' : Dk 1 d₁ := hd₁.mono (by lia)
  have R : ∀ Q' : V → Option Deck → Prop, (∀ d', Q' (.bool true) (some d')) → Right 1 [.deck] (some d₁) Q' := fun Q' hq => ⟨d₁, rfl, rfl, hd₁', hq⟩
  have cases6 : r = 0 ∨ r = 1 ∨ r = 2 ∨ r = 3 ∨ r = 4 ∨ r = 5 := by lia
  rcases cases6 with rfl | rfl | rfl | rfl | rfl | rfl
  all_goals exact ⟨by trivial, R _ fun d' => ⟨by trivial, h d'⟩⟩

structure Fns (B : Base) : Prop where
  decimal_octets : HasFn B 4 "decimal_octets"
  number_of : HasFn B 5 "number_of"
  sign_lead : HasFn B 7 "sign_lead"
  format_truth : HasFn B 15 "format_truth"
  format_compared : HasFn B 16 "format_compared"
  format_quoted : HasFn B 17 "format_quoted"
  format_two : HasFn B 18 "format_two"
  format_time : HasFn B 19 "format_time"
  format_folded : HasFn B 20 "format_folded"
  format_fits : HasFn B 21 "format_fits"
  format_whole : HasFn B 22 "format_whole"
  format_quotient : HasFn B 23 "format_quotient"
  format_reckoned : HasFn B 24 "format_reckoned"
  format_replaced : HasFn B 25 "format_replaced"
  format_sign_end : HasFn B 26 "format_sign_end"
  format_pieces : HasFn B 27 "format_pieces"
  format_width : HasFn B 28 "format_width"
  format_cut : HasFn B 29 "format_cut"
  format_limited : HasFn B 30 "format_limited"
  format_filled : HasFn B 31 "format_filled"
  f_law_deck : HasFn B 33 "_law_deck"
  f_law_draw : HasFn B 34 "_law_draw"
  f_law_pick : HasFn B 35 "_law_pick"
  f_law_figures : HasFn B 36 "_law_figures"
  f_law_number : HasFn B 37 "_law_number"
  f_law_reckoned_right : HasFn B 38 "_law_reckoned_right"
  f_law_is_long : HasFn B 39 "_law_is_long"
  f_law_time_right : HasFn B 40 "_law_time_right"
  f_law_fits : HasFn B 41 "_law_fits"
  f_law_fits_right : HasFn B 42 "_law_fits_right"
  f_law_replaced_right : HasFn B 43 "_law_replaced_right"
  f_law_cut : HasFn B 44 "_law_cut"
  f_law_cut_right : HasFn B 45 "_law_cut_right"
  f_law_quoted_right : HasFn B 46 "_law_quoted_right"
  law : HasFn B 47 "law"

theorem law_fn {B : Base} (Z : Glob B) (H : Fns B) : FnN B 8 "law" LawS := by
  have lift : ∀ {m n : Nat} {x : Str} {φ : Spec}, FnN B m x φ → m ≤ n → FnN B n x φ := fun h hm => h.mono hm
  have h_dec := fnN_of (n := 0) (φ := Dec) Z.ok H.decimal_octets k_decimal_octets (d_decimal_octets Z) fun _ _ _ h => fDec h
  have h_num := fnN_of (n := 0) (φ := Num) Z.ok H.number_of k_number_of (d_number_of Z) fun _ _ _ h => fNum h
  have h_lead := fnN_of (n := 0) (φ := Lead) Z.ok H.sign_lead k_sign_lead d_sign_lead fun _ _ _ h => fLead h
  have h_truth := fnN_of (n := 0) (φ := Truth) Z.ok H.format_truth k_format_truth d_format_truth fun _ _ _ h => fTruth h
  have h_compared := fnN_of (n := 0) (φ := Compared) Z.ok H.format_compared k_format_compared d_format_compared fun _ _ _ h => fCompared h
  have h_quoted := fnN_of (n := 0) (φ := Quoted) Z.ok H.format_quoted k_format_quoted (d_format_quoted Z) fun _ _ _ h => fQuoted h
  have h_two := fnN_of (n := 1) (φ := Two) Z.ok H.format_two k_format_two (d_format_two Z h_dec) fun _ _ _ h => fTwo h
  have h_time := fnN_of (n := 2) (φ := Time) Z.ok H.format_time k_format_time (d_format_time Z (lift h_num (by decide)) (lift h_dec (by decide)) h_two) fun _ _ _ h => fTime h
  have h_folded := fnN_of (n := 0) (φ := Folded) Z.ok H.format_folded k_format_folded (d_format_folded Z) fun _ _ _ h => fFolded h
  have h_fits := fnN_of (n := 0) (φ := Fits) Z.ok H.format_fits k_format_fits (d_format_fits Z) fun _ _ _ h => fFits h
  have h_whole := fnN_of (n := 1) (φ := Whole) Z.ok H.format_whole k_format_whole (d_format_whole Z h_num) fun _ _ _ h => fWhole h
  have h_quot := fnN_of (n := 0) (φ := Quot') Z.ok H.format_quotient k_format_quotient (d_format_quotient Z) fun _ _ _ h => fQuot h
  have h_reck := fnN_of (n := 2) (φ := Reck) Z.ok H.format_reckoned k_format_reckoned (d_format_reckoned Z h_whole (lift h_truth (by decide)) (lift h_compared (by decide)) (lift h_dec (by decide)) (lift h_quot (by decide))) fun _ _ _ h => fReck h
  have h_replaced := fnN_of (n := 1) (φ := Replaced) Z.ok H.format_replaced k_format_replaced (d_format_replaced Z h_folded) fun _ _ _ h => fReplaced h
  have h_signend := fnN_of (n := 1) (φ := SignEnd) Z.ok H.format_sign_end k_format_sign_end (d_format_sign_end Z h_lead) fun _ _ _ h => fSignEnd h
  have h_pieces := fnN_of (n := 2) (φ := Pieces) Z.ok H.format_pieces k_format_pieces (d_format_pieces Z h_signend) fun _ _ _ h => fPieces h
  have h_width := fnN_of (n := 3) (φ := Width) Z.ok H.format_width k_format_width (d_format_width Z h_pieces) fun _ _ _ h => fWidth h
  have h_cut := fnN_of (n := 3) (φ := Cut) Z.ok H.format_cut k_format_cut (d_format_cut Z h_pieces) fun _ _ _ h => fCut h
  have h_limited := fnN_of (n := 4) (φ := Limited) Z.ok H.format_limited k_format_limited (d_format_limited Z (lift h_whole (by decide)) h_width h_cut) fun _ _ _ h => fLimited h
  have h_filled := fnN_of (n := 4) (φ := Filled) Z.ok H.format_filled k_format_filled (d_format_filled Z (lift h_whole (by decide)) h_width) fun _ _ _ h => fFilled h
  have h_deck := fnN_of (n := 0) (φ := DeckS) Z.ok H.f_law_deck k__law_deck (d__law_deck Z) fun _ _ _ h => fDeckS h
  have h_draw : ∀ T : Int, T ≤ 1000000 → FnN B 1 "_law_draw" (Draw T) := fun T hT => fnN_of (n := 0) (φ := Draw T) Z.ok H.f_law_draw k__law_draw d__law_draw fun _ _ _ h => fDraw hT h
  have h_pick : ∀ T : Int, T ≤ 1000000 → FnN B 2 "_law_pick" (Pick T) := fun T hT => fnN_of (n := 1) (φ := Pick T) Z.ok H.f_law_pick k__law_pick (d__law_pick Z (h_draw T hT)) fun _ _ _ h => fPick h
  have h_fig := fnN_of (n := 0) (φ := Dec) Z.ok H.f_law_figures k__law_figures (d__law_figures Z) fun _ _ _ h => fFig h
  have h_number := fnN_of (n := 2) (φ := Number 11) Z.ok H.f_law_number k__law_number (d__law_number Z (lift (h_draw 12 (by decide)) (by decide)) (h_pick 12 (by decide)) (lift h_fig (by decide))) fun _ _ _ h => fNumber (t := 11) h
  have h_long := fnN_of (n := 0) (φ := Long) Z.ok H.f_law_is_long k__law_is_long d__law_is_long fun _ _ _ h => fLong h
  have h_rr := fnN_of (n := 3) (φ := Right 1) Z.ok H.f_law_reckoned_right k__law_reckoned_right (d__law_reckoned_right Z h_number (lift (h_pick 11 (by decide)) (by decide)) (lift h_whole (by decide)) h_reck (lift h_fig (by decide))) fun _ _ _ h => fReckRight (t := 1) h
  have h_tr := fnN_of (n := 3) (φ := Right 1) Z.ok H.f_law_time_right k__law_time_right (d__law_time_right Z (lift (h_pick 11 (by decide)) (by decide)) (lift (h_draw 11 (by decide)) (by decide)) (lift h_long (by decide)) (lift h_fig (by decide)) h_time) fun _ _ _ h => fTimeRight (t := 1) h
  have h_rec : ∀ k : Nat, k ≤ 20 → FnN B k "_law_fits" (FitsRec k) := by
    intro k
    induction k with
    | zero =>
      intro _
      obtain ⟨a, o, pm, code, doc, h1, h2, h3, h4⟩ := H.f_law_fits
      exact ⟨a, o, _, h1, h2, h3, fun A G s ds vs dk Q _ _ _ hf => False.elim hf⟩
    | succ k ih =>
      intro hk
      exact fnN_of (n := k) (φ := FitsRec (k + 1)) Z.ok H.f_law_fits k__law_fits (d__law_fits Z (ih (by lia))) fun _ _ _ h => fFitsRec k (by lia) h
  have h_fr := fnN_of (n := 6) (φ := Right 1) Z.ok H.f_law_fits_right k__law_fits_right (d__law_fits_right Z (lift (h_draw 21 (by decide)) (by decide)) (lift (h_pick 21 (by decide)) (by decide)) (lift h_fits (by decide)) (h_rec 6 (by decide))) fun _ _ _ h => fFitsRight (t := 1) h
  have h_pr := fnN_of (n := 2) (φ := Right 1) Z.ok H.f_law_replaced_right k__law_replaced_right (d__law_replaced_right Z (lift (h_draw 21 (by decide)) (by decide)) (h_pick 21 (by decide)) h_replaced) fun _ _ _ h => fReplacedRight (t := 1) h
  have h_lc := fnN_of (n := 0) (φ := LawCut) Z.ok H.f_law_cut k__law_cut (d__law_cut Z) fun _ _ _ h => fLawCut h
  have h_cr := fnN_of (n := 5) (φ := Right 1) Z.ok H.f_law_cut_right k__law_cut_right (d__law_cut_right Z (lift (h_draw 21 (by decide)) (by decide)) (lift (h_pick 21 (by decide)) (by decide)) (lift h_width (by decide)) (lift h_lc (by decide)) (lift h_fig (by decide)) h_limited h_filled (lift h_cut (by decide))) fun _ _ _ h => fCutRight (t := 1) h
  have h_qr := fnN_of (n := 2) (φ := Right 1) Z.ok H.f_law_quoted_right k__law_quoted_right (d__law_quoted_right Z (lift (h_draw 11 (by decide)) (by decide)) (h_pick 11 (by decide)) (lift h_quoted (by decide))) fun _ _ _ h => fQuotedRight (t := 1) h
  exact fnN_of (n := 7) (φ := LawS) Z.ok H.law k_law (d_law Z (lift h_deck (by decide)) (lift (h_draw 0 (by decide)) (by decide)) (lift h_rr (by decide)) (lift h_tr (by decide)) h_fr (lift h_pr (by decide)) (lift h_cr (by decide)) (lift h_qr (by decide))) fun _ _ _ h => fLaw h
end

section
noncomputable def recT (d : DefRec) : Str × Arguments × List Stmt × Scope := (d.name, d.params, d.body, d.scope)
noncomputable def recI (p : Nat × Str) : Str × Arguments × List Stmt × Scope := (p.2, paramsOf p.1, bodyOf p.1, scopeOf p.1)
noncomputable def recL : List (Nat × Str) := [(((4 : Nat), (("decimal_octets" : String) : Str)) : Nat × Str), (((5 : Nat), (("number_of" : String) : Str)) : Nat × Str), (((7 : Nat), (("sign_lead" : String) : Str)) : Nat × Str), (((15 : Nat), (("format_truth" : String) : Str)) : Nat × Str), (((16 : Nat), (("format_compared" : String) : Str)) : Nat × Str), (((17 : Nat), (("format_quoted" : String) : Str)) : Nat × Str), (((18 : Nat), (("format_two" : String) : Str)) : Nat × Str), (((19 : Nat), (("format_time" : String) : Str)) : Nat × Str), (((20 : Nat), (("format_folded" : String) : Str)) : Nat × Str), (((21 : Nat), (("format_fits" : String) : Str)) : Nat × Str), (((22 : Nat), (("format_whole" : String) : Str)) : Nat × Str), (((23 : Nat), (("format_quotient" : String) : Str)) : Nat × Str), (((24 : Nat), (("format_reckoned" : String) : Str)) : Nat × Str), (((25 : Nat), (("format_replaced" : String) : Str)) : Nat × Str), (((26 : Nat), (("format_sign_end" : String) : Str)) : Nat × Str), (((27 : Nat), (("format_pieces" : String) : Str)) : Nat × Str), (((28 : Nat), (("format_width" : String) : Str)) : Nat × Str), (((29 : Nat), (("format_cut" : String) : Str)) : Nat × Str), (((30 : Nat), (("format_limited" : String) : Str)) : Nat × Str), (((31 : Nat), (("format_filled" : String) : Str)) : Nat × Str), (((33 : Nat), (("_law_deck" : String) : Str)) : Nat × Str), (((34 : Nat), (("_law_draw" : String) : Str)) : Nat × Str), (((35 : Nat), (("_law_pick" : String) : Str)) : Nat × Str), (((36 : Nat), (("_law_figures" : String) : Str)) : Nat × Str), (((37 : Nat), (("_law_number" : String) : Str)) : Nat × Str), (((38 : Nat), (("_law_reckoned_right" : String) : Str)) : Nat × Str), (((39 : Nat), (("_law_is_long" : String) : Str)) : Nat × Str), (((40 : Nat), (("_law_time_right" : String) : Str)) : Nat × Str), (((41 : Nat), (("_law_fits" : String) : Str)) : Nat × Str), (((42 : Nat), (("_law_fits_right" : String) : Str)) : Nat × Str), (((43 : Nat), (("_law_replaced_right" : String) : Str)) : Nat × Str), (((44 : Nat), (("_law_cut" : String) : Str)) : Nat × Str), (((45 : Nat), (("_law_cut_right" : String) : Str)) : Nat × Str), (((46 : Nat), (("_law_quoted_right" : String) : Str)) : Nat × Str), (((47 : Nat), (("law" : String) : Str)) : Nat × Str)]

theorem fns_of {q r : Program} {w : World} {loose : List Str} {mean : ExcName → Option Value} {mg mb : Str → Option Value} {h : Heap} (T : Top q loose mean mg mb h) (hr : (recsOf q).map recT = recL.map recI) : Fns ⟨r, w, h, mg, mb⟩ := by
  have key : ∀ i x, (i, x) ∈ recL → HasFn ⟨r, w, h, mg, mb⟩ i x := by
    intro i x hm
    have h1 : recI (i, x) ∈ (recsOf q).map recT := hr ▸ List.mem_map_of_mem hm
    obtain ⟨d, hd, he⟩ := List.mem_map.mp h1
    obtain ⟨a, o, pm, code, doc, e1, e2, e3, e4⟩ := T.fn d hd
    obtain ⟨n, pa, bo, sc, po⟩ := d
    simp only [recT, recI, Prod.mk.injEq] at he
    obtain ⟨rfl, rfl, rfl, rfl⟩ := he
    exact ⟨a, o, pm, code, doc, e1, e2, e3, e4⟩
  constructor <;> exact key _ _ (by unfold recL; repeat (first | exact List.Mem.head _ | apply List.Mem.tail))
theorem blt_of {q r : Program} {w : World} {loose : List Str} {mean : ExcName → Option Value} {mg mb : Str → Option Value} {h : Heap} (T : Top q loose mean mg mb h) {x : Str} {v : Value}
    (h1 : x ∉ startupNames ∧ x ∉ loose ∧ x ∉ (recsOf q).map (·.name) ∧ x ∉ (litsOf q).map (·.1) ∧ x ∉ (clssOf q loose).map (·.name)) (h2 : x ≠ "__name__") (h3 : bootBuiltins x = some v) : Blt ⟨r, w, h, mg, mb⟩ x v :=
  ⟨T.free x h1.1 h1.2.1 h1.2.2.1 h1.2.2.2.1 h1.2.2.2.2, (T.builtins x h2).trans h3⟩

theorem int_of {q r : Program} {w : World} {loose : List Str} {mean : ExcName → Option Value} {mg mb : Str → Option Value} {h : Heap} (T : Top q loose mean mg mb h) {x : Str} {i : Int}
    (hv : valOf q x = some (.int i)) : Cst ⟨r, w, h, mg, mb⟩ x (.int i) := by
  obtain ⟨v, h1, h2⟩ := T.const x _ hv
  have := h2 h
  cases this with
  | int _ t => exact ⟨_, h1, fun G => ⟨t, rfl⟩⟩

theorem int_lit {r : Program} {w : World} {mg mb : Str → Option Value} {h : Heap} {x : Str} {i : Int} (hv : ∃ v, mg x = some v ∧ ReadsLit h v (.int i) []) : Cst ⟨r, w, h, mg, mb⟩ x (.int i) := by
  obtain ⟨v, h1, h2⟩ := hv
  cases h2 with
  | int _ t => exact ⟨_, h1, fun G => ⟨t, rfl⟩⟩

theorem byt_lit {r : Program} {w : World} {mg mb : Str → Option Value} {h : Heap} {x : Str} {b : List UInt8} (hv : ∃ v, mg x = some v ∧ ReadsLit h v (.bytes b) []) : Cst ⟨r, w, h, mg, mb⟩ x (.byt b) := by
  obtain ⟨v, h1, h2⟩ := hv
  generalize hd : WData.bytes b = d at h2
  cases h2 with
  | bytes b' t => cases hd; exact ⟨_, h1, fun G => ⟨t, rfl⟩⟩
  | _ => cases hd
end

section
theorem vals_ints {G : Gh} : ∀ {vs : List Value} {ns : List Int}, IntsAre vs ns → Vals G (ns.map V.int) vs
  | _, _, .nil => rfl
  | _, _, .cons n t r => ⟨_, _, rfl, ⟨t, rfl⟩, vals_ints r⟩

theorem law_holds {q r : Program} {w : World} {loose : List Str} {mean : ExcName → Option Value} {mg mb : Str → Option Value} {s₀ s₁ : Shared} {c : ClaimW} {fa a : Addr} {vs : List Value} {ns : List Int} {cl : Str → Option Addr} {args : List WData}
    (T : Top q loose mean mg mb s₁.heap) (Z : Glob ⟨r, w, s₁.heap, mg, mb⟩) (H : Fns ⟨r, w, s₁.heap, mg, mb⟩) (hmg : mg "law" = some (.ref fa)) (hg : s₁.gens = #[])
    (hL : s₁.heap.IsList a vs.toArray) (hI : IntsAre vs ns) (hn : ¬ (63 : Int) < (ns.length : Int)) (hr : ∀ cls, c.raises args cls = false) (hp : c.post args (.bool true) args = true) :
    W (model r w) callerA (PySem.call (.ref fa) [.ref a]) (fun v s' => GoodWG c cl (ExcName.means s₀.heap) args s₁ (.ok (.ret v)) s') s₁ ∧
      GoodWG c cl (ExcName.means s₀.heap) args s₁ (.ok (.ret (.bool true))) s₁ := by
  have hU : c.unshared = true → ([] : List Addr).Nodup ∧ ∀ a ∈ ([] : List Addr), s₁.heap.get? a = none := fun _ => ⟨.nil, fun _ h => by cases h⟩
  obtain ⟨fa', o, fd, e1, e2, e3, F⟩ := law_fn Z H
  have e : fa' = fa := by
    have h1 : some (Value.ref fa') = some (Value.ref fa) := e1.symm.trans hmg
    injection h1 with h1; injection h1
  subst e
  obtain ⟨ol, l1, l2, l3, l4⟩ := hL
  have C : CallInv ⟨r, w, s₁.heap, mg, mb⟩ ⟨s₁.heap.get?, none, none⟩ none s₁ := ⟨fun _ _ h => h, fun _ _ h => h, rfl, fun p h => (by cases h), rfl⟩
  have R : Room 8 callerA := ⟨rfl, rfl, by decide +kernel, by decide +kernel⟩
  have Vs : Vals ⟨s₁.heap.get?, none, none⟩ [V.lst (ns.map V.int)] [Value.ref a] := ⟨_, _, rfl, ⟨a, ol, vs.toArray, l3, rfl, l1, l2, l4, vals_ints hI⟩, rfl⟩
  refine ⟨W.mono (F callerA ⟨s₁.heap.get?, none, none⟩ s₁ [V.lst (ns.map V.int)] [Value.ref a] none (fun d _ => d = .bool true) R C Vs ⟨ns, rfl, by omega, rfl, fun _ => rfl⟩) ?_, ?_⟩
  · rintro v s' ⟨d, dk', G', rfl, hv, C', St⟩
    have hv' : v = .bool true := hv
    subst hv'
    obtain ⟨h', tk, rfl⟩ := St.same
    exact GoodW.toG ⟨.inl ⟨_, _, [], rfl, hr, .bool true, hp, hU⟩, fun b o hb => St.keep b o hb (fun p e => by cases e), rfl, hg⟩
  · exact GoodW.toG ⟨.inl ⟨_, _, [], rfl, hr, .bool true, hp, hU⟩, fun b o hb => hb, rfl, hg⟩
end

section
noncomputable def bltL : List (Str × Value) := [((("len" : String) : Str), .builtin "len"), ((("abs" : String) : Str), .builtin "abs"), ((("max" : String) : Str), .builtin "max"), ((("min" : String) : Str), .builtin "min"), ((("int" : String) : Str), .type "int"), ((("bytes" : String) : Str), .type "bytes"), ((("bytearray" : String) : Str), .type "bytearray"), ((("list" : String) : Str), .type "list"), ((("range" : String) : Str), .type "range")]
theorem blt_boot : bltL.map (fun p => bootBuiltins p.1) = bltL.map (fun p => some p.2) := by kernel_rfl

theorem closing {q r : Program} {w : World} {loose : List Str} {mean : ExcName → Option Value} {mg mb : Str → Option Value} {s₀ s₁ : Shared} {c : ClaimW} {fa a : Addr} {vs : List Value} {ns : List Int} {cl : Str → Option Addr} {args : List WData} {lv : List (Str × WData)}
    (T : Top q loose mean mg mb s₁.heap) (TW : TopW q mg s₁.heap) (X : LooseAre lv mg s₁.heap) (hmg : mg "law" = some (.ref fa)) (hg : s₁.gens = #[])
    (hL : s₁.heap.IsList a vs.toArray) (hI : IntsAre vs ns) (hn : ¬ (63 : Int) < (ns.length : Int)) (hr : ∀ cls, c.raises args cls = false) (hp : c.post args (.bool true) args = true)
    (v0 : (recsOf q).map recT = recL.map recI) (v1 : valOf q "SIGN" = some (.int 35)) (v2 : valOf q "DAY" = some (.int 86400)) (v3 : valOf q "MOST_FIGURES" = some (.int 1000)) (v4 : valOf q "MOST_WIDE" = some (.int 10000)) (v5 : valOf q "MOST_LONG" = some (.int 100000))
    (v6 : ∃ i : Nat, (wlitsOf q)[i]? = some (Str.ofString "SPECIAL", WData.bytes special)) (v7 : ∃ i : Nat, lv[i]? = some (Str.ofString "BACKSLASH", WData.int 92))
    (v8 : ∀ x ∈ bltL.map (·.1), x ∉ startupNames ∧ x ∉ loose ∧ x ∉ (recsOf q).map (·.name) ∧ x ∉ (litsOf q).map (·.1) ∧ x ∉ (clssOf q loose).map (·.name)) :
    W (model r w) callerA (PySem.call (.ref fa) [.ref a]) (fun v s' => GoodWG c cl (ExcName.means s₀.heap) args s₁ (.ok (.ret v)) s') s₁ ∧
      GoodWG c cl (ExcName.means s₀.heap) args s₁ (.ok (.ret (.bool true))) s₁ := by
  have O : Base.Ok ⟨r, w, s₁.heap, mg, mb⟩ := ⟨T.g, T.b, T.nolimit, modules_low T.nolimit⟩
  have bl : ∀ x v, (x, v) ∈ bltL → x ≠ "__name__" → Blt ⟨r, w, s₁.heap, mg, mb⟩ x v := fun x v hm hx =>
    blt_of T (v8 x (List.mem_map.mpr ⟨_, hm, rfl⟩)) hx (List.map_inj_left.mp blt_boot _ hm)
  have Z : Glob ⟨r, w, s₁.heap, mg, mb⟩ := by
    refine ⟨O, ?_, ?_, ?_, ?_, ?_, ?_, ?_, ?_, ?_, int_of T v1, ?_, int_of T v2, int_of T v3, int_of T v4, int_of T v5, ?_⟩
    · exact bl _ _ (by unfold bltL; repeat (first | exact List.Mem.head _ | apply List.Mem.tail)) (by decide +kernel)
    · exact bl _ _ (by unfold bltL; repeat (first | exact List.Mem.head _ | apply List.Mem.tail)) (by decide +kernel)
    · exact bl _ _ (by unfold bltL; repeat (first | exact List.Mem.head _ | apply List.Mem.tail)) (by decide +kernel)
    · exact bl _ _ (by unfold bltL; repeat (first | exact List.Mem.head _ | apply List.Mem.tail)) (by decide +kernel)
    · exact bl _ _ (by unfold bltL; repeat (first | exact List.Mem.head _ | apply List.Mem.tail)) (by decide +kernel)
    · exact bl _ _ (by unfold bltL; repeat (first | exact List.Mem.head _ | apply List.Mem.tail)) (by decide +kernel)
    · exact bl _ _ (by unfold bltL; repeat (first | exact List.Mem.head _ | apply List.Mem.tail)) (by decide +kernel)
    · exact bl _ _ (by unfold bltL; repeat (first | exact List.Mem.head _ | apply List.Mem.tail)) (by decide +kernel)
    · exact bl _ _ (by unfold bltL; repeat (first | exact List.Mem.head _ | apply List.Mem.tail)) (by decide +kernel)
    · obtain ⟨i, hi⟩ := v7
      have := X.val _ (List.mem_of_getElem? hi)
      exact int_lit this
    · obtain ⟨i, hi⟩ := v6
      have := TW.lits _ (List.mem_of_getElem? hi)
      exact byt_lit this
  exact law_holds T Z (fns_of T v0) hmg hg hL hI hn hr hp
end

section
set_option maxRecDepth 100000
set_option maxHeartbeats 8000000
theorem left_yes (w : World) : LeftAt (w.withFollow "special-get-raises" true) := by unfold LeftAt; kernel_rfl
theorem left_all : LeftO PySem.Challenge.pw_pq1184_01 Vw lss xt (fun _ => ()) (fun _ => ()) 3470 := fun w => byRow2 "special-get-raises" left_no left_yes w
end

section
set_option maxRecDepth 100000 in
set_option maxHeartbeats 8000000 in
theorem look : looksOpen (PySem.Challenge.rw_pq1184_01 : OpenLaw).row.prog = true := by kernel_rfl
set_option maxRecDepth 100000 in
set_option maxHeartbeats 8000000 in
theorem said_row : (PySem.Challenge.rw_pq1184_01 : OpenLaw).row.wellSaid = true := by
  unfold OpenRow.wellSaid OpenRow.partSaid
  rw [look]
  kernel_rfl
set_option maxRecDepth 100000 in
set_option maxHeartbeats 8000000 in
theorem said : (PySem.Challenge.rw_pq1184_01 : OpenLaw).wellSaid = true := by
  unfold OpenLaw.wellSaid
  rw [said_row]
  kernel_rfl
set_option maxRecDepth 100000 in
set_option maxHeartbeats 8000000 in
theorem main : PySem.Challenge.rw_pq1184_01.Holds := by
  w_on
  refine holds_law said fun said => ?_
  refine head (q := Vw) (loose := lss) (Xt := fun s => xlAt Vw lvs s && recOk [] s) (XP := XL Vw lvs) (N := 3470) left_all (fun s e => ⟨xl_of s (Bool.and_eq_true_iff.mp e).1, recFacts_of (Bool.and_eq_true_iff.mp e).2⟩) XL.keeps ⟨by rfl, by rfl, by rfl⟩ ⟨said, by rfl, by decide +kernel⟩ ⟨rfl, rfl, rfl, rfl, rfl, by decide +kernel⟩ ?ends ?walk
  case ends => w_witness2
  intro w s₀ s₁ mg mb G _ fa o pm cd doc dV kV ho hd hcd hD hmg hg args vals as hpre hlay hrd hwl hlo
  refine (fun h : _ ∧ _ => guarded_any h.1 h.2) ?_
  have X := (Ground.X G).2
  clear ho hd hcd hD
  refine Ground.open G ?_
  intro T B D TE TW
  clear B D TE G
  wrow_args hpre hlay hrd hwl hlo
  refine closing T TW X hmg hg (by assumption) (by assumption) (by assumption) (fun _ => rfl) ?_ ?_ ?_ ?_ ?_ ?_ ?_ ?_ ?_ ?_
  · wrow_post
  · kernel_rfl
  · kernel_rfl
  · kernel_rfl
  · kernel_rfl
  · kernel_rfl
  · kernel_rfl
  · exact ⟨0, by kernel_rfl⟩
  · exact ⟨2, by kernel_rfl⟩
  · decide +kernel
end

end
end Mine

theorem PySem.Challenge.cw_pq1184_01_holds : PySem.Challenge.rw_pq1184_01.Holds :=
  Mine.main
