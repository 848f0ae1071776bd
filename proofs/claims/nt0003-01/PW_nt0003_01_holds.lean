import PyProof.Rows.All
import Wide.All
import OpenK.AllK
import Wide.FinOn
import Lean
import PySem.Challenge.RW_nt0003_01
open PySem PySem.W PySem.Spec PySem.Calls PyProof.Rows PyProof.V
set_option Elab.async false
set_option maxRecDepth 100000
set_option compiler.extract_closed false
local macro_rules | `(tactic| k_all) => `(tactic| assumption)
local macro_rules | `(tactic| walk_at $s:str) => `(tactic| k_extra $s)
namespace Mine
set_option synthInstance.maxSize 1 in
set_option maxRecDepth 100000 in
set_option maxHeartbeats 8000000 in
open_top hd for PySem.Challenge.rw_nt0003_01
end Mine
namespace Mine
theorem rules1 : True := by
  w_top off
  k_with_none
  trivial
/-- a statement's continuation, held under a name of its own: the walk of the statement shows the name alone -/
def Kont {α : Type} (B Q : α → Shared → Prop) : Prop := ∀ a s, B a s → Q a s
theorem Kont.use {α : Type} {B Q : α → Shared → Prop} (k : Kont B Q) {a : α} {s : Shared} (h : B a s) : Q a s := k a s h
theorem execs_hide {M : Model} {A : Around} {env : Env} {E : Value → Shared → Prop} {s : Shared} {st : Stmt} {rest : List Stmt} {Q : Flow → Shared → Prop}
    (h : ∀ Q' : Flow → Shared → Prop, Kont (fun f s' => match f with | .next => wpAny M A (execs rest env) Q E s' | f => Q f s') Q' → wpAny M A (exec st env) Q' E s) :
    wpAny M A (execs (st :: rest) env) Q E s := wpAny_execs_cons (h _ fun _ _ x => x)
end Mine
local macro_rules | `(tactic| k_steps) => `(tactic| repeat' (first | ((with_reducible refine Mine.Kont.use (by with_reducible assumption) ?_); (try dsimp only)) | (k_unfold; (try dsimp only)) | (k_end; kc_close) | walk1 | (dsimp only; walk1) | (leave1; walk_say "STEP leave1"; (try dsimp only)) | fail "no step"))
namespace Mine
theorem rules2 : True := by
  w_top off
  k_with_none
  trivial
namespace BB
open Builtin

theorem slot_find : Slot "bytes" "find" "bytes.find" :=
  .of (owner := "bytes") (n := "find") (by rw [typeLookup_type, builtinLookup_eq_fast]; kernel_rfl) (by decide +kernel) (by decide +kernel) (by decide +kernel)
    (by first | exact .inl (by decide +kernel) | exact .inr (by decide +kernel)) (by rw [isSubtype_type]; kernel_rfl)
theorem type_find : typeOf (.builtin "bytes.find") = pure (.type "method_descriptor") := by show builtinType _ = _; rw [builtinType_eq_fast]; kernel_rfl
theorem entry_find : entryFor table "bytes.find" = some Builtin.«bytes.find» := entryFor_of_tree (by kernel_rfl)
theorem args_find (a b : Value) : argsOk "bytes.find" ⟨[a, b], []⟩ := by
  unfold argsOk; rw [signature?_of (id := "bytes.find") (n := ['d', 'n', 'i', 'f']) (o := ['s', 'e', 't', 'y', 'b']) (by kernel_rfl) FB.owner_bytes]; kernel_rfl

theorem slot_strip : Slot "bytes" "strip" "bytes.strip" :=
  .of (owner := "bytes") (n := "strip") (by rw [typeLookup_type, builtinLookup_eq_fast]; kernel_rfl) (by decide +kernel) (by decide +kernel) (by decide +kernel)
    (by first | exact .inl (by decide +kernel) | exact .inr (by decide +kernel)) (by rw [isSubtype_type]; kernel_rfl)
theorem type_strip : typeOf (.builtin "bytes.strip") = pure (.type "method_descriptor") := by show builtinType _ = _; rw [builtinType_eq_fast]; kernel_rfl
theorem entry_strip : entryFor table "bytes.strip" = some Builtin.«bytes.strip» := entryFor_of_tree (by kernel_rfl)
theorem args_strip (a b : Value) : argsOk "bytes.strip" ⟨[a, b], []⟩ := by
  unfold argsOk; rw [signature?_of (id := "bytes.strip") (n := ['p', 'i', 'r', 't', 's']) (o := ['s', 'e', 't', 'y', 'b']) (by kernel_rfl) FB.owner_bytes]; kernel_rfl

theorem slot_split : Slot "bytes" "split" "bytes.split" :=
  .of (owner := "bytes") (n := "split") (by rw [typeLookup_type, builtinLookup_eq_fast]; kernel_rfl) (by decide +kernel) (by decide +kernel) (by decide +kernel)
    (by first | exact .inl (by decide +kernel) | exact .inr (by decide +kernel)) (by rw [isSubtype_type]; kernel_rfl)
theorem type_split : typeOf (.builtin "bytes.split") = pure (.type "method_descriptor") := by show builtinType _ = _; rw [builtinType_eq_fast]; kernel_rfl
theorem entry_split : entryFor table "bytes.split" = some Builtin.«bytes.split» := entryFor_of_tree (by kernel_rfl)
theorem args_split (a b : Value) : argsOk "bytes.split" ⟨[a, b], []⟩ := by
  unfold argsOk; rw [signature?_of (id := "bytes.split") (n := ['t', 'i', 'l', 'p', 's']) (o := ['s', 'e', 't', 'y', 'b']) (by kernel_rfl) FB.owner_bytes]; kernel_rfl

theorem slot_join : Slot "bytes" "join" "bytes.join" :=
  .of (owner := "bytes") (n := "join") (by rw [typeLookup_type, builtinLookup_eq_fast]; kernel_rfl) (by decide +kernel) (by decide +kernel) (by decide +kernel)
    (by first | exact .inl (by decide +kernel) | exact .inr (by decide +kernel)) (by rw [isSubtype_type]; kernel_rfl)
theorem type_join : typeOf (.builtin "bytes.join") = pure (.type "method_descriptor") := by show builtinType _ = _; rw [builtinType_eq_fast]; kernel_rfl
theorem entry_join : entryFor table "bytes.join" = some Builtin.«bytes.join» := entryFor_of_tree (by kernel_rfl)
theorem args_join (a b : Value) : argsOk "bytes.join" ⟨[a, b], []⟩ := by
  unfold argsOk; rw [signature?_of (id := "bytes.join") (n := ['n', 'i', 'o', 'j']) (o := ['s', 'e', 't', 'y', 'b']) (by kernel_rfl) FB.owner_bytes]; kernel_rfl

def findI (b c : Array UInt8) : Int := match Bytes.find? b c 0 b.size with | some i => (i : Int) | none => -1
def stripBy (c b : Array UInt8) : Array UInt8 := ((b.toList.dropWhile c.toList.contains).reverse.dropWhile c.toList.contains).reverse.toArray
theorem contains_fun (c : Array UInt8) : (fun x => c.contains x) = fun x => c.toList.contains x := funext fun x => Array.contains_toList.symm
def splitBy (b c : Array UInt8) : List (Array UInt8) := Bytes.between b c.size (Bytes.occurrences b c 0 b.size)

variable {prog : Program} {w : World} {A : Around} {E : Value → Shared → Prop} {s : Shared} {b c : Array UInt8} {t u : Tok} {Q : Value → Shared → Prop}
theorem find_none (h : b.size < c.size) : Bytes.find? b c 0 b.size = none := by
  unfold Bytes.find?
  have : b.size + 1 - (0 + c.size) = 0 := by omega
  rw [this]; rfl
theorem window_all (n : Nat) : Bytes.window n none none = (0, (n : Int)) := by
  unfold Bytes.window
  simp
  omega
theorem ite_both {P : Prop} [Decidable P] {a b : Prop} (h1 : P → a) (h2 : ¬ P → b) : if P then a else b := by
  by_cases h : P
  · rw [if_pos h]; exact h1 h
  · rw [if_neg h]; exact h2 h
theorem meets_find (b c : Array UInt8) (t u : Tok) : Meets («bytes.find» ⟨[.bytes b t, .bytes c u], []⟩) (fun _ R s => ∀ t' k, R (.ok (.ret (.int (findI b c) t'))) { s with toks := k }) := by
  refine .of_wp fun prog w A R s h => ?_
  show wpAny _ _ (Bytes.searchArgs _ _ _ >>= fun r => _) _ _ s
  refine wpAny_bind ?_
  show wpAny _ _ (Bytes.buffer? _ (.bytes c u) >>= fun r => _) _ _ s
  refine wpAny_bind (wpAny_of_eq KBy.buffer_eq ?_)
  have hw := window_all b.size
  refine wpAny_bind (wpAny_pure ?_)
  show wpAny _ _ (Bytes.payload (.bytes b t) >>= fun r => _) _ _ s
  refine wpAny_bind (wpAny_of_eq (a := b) rfl ?_)
  refine wpAny_pure ?_
  have e1 : Min.min (b.size : Int) ((fun i : Int => if i < 0 then Max.max 0 (i + (b.size : Int)) else i) ((none : Option Int).getD (b.size : Int))) = b.size := congrArg Prod.snd hw
  have e2 : (fun i : Int => if i < 0 then Max.max 0 (i + (b.size : Int)) else i) ((none : Option Int).getD 0) = 0 := congrArg Prod.fst hw
  rw [e1, e2]
  have hfind : ((if (b.size : Int) - 0 < (c.size : Int) then none else some (Int.toNat 0, Int.toNat (b.size : Int))).bind fun (p : Nat × Nat) => Bytes.find? b c p.1 p.2) = Bytes.find? b c 0 b.size := by
    by_cases hlt : (b.size : Int) - 0 < (c.size : Int)
    · rw [if_pos hlt, find_none (by omega)]; rfl
    · rw [if_neg hlt]; rfl
  show wpAny _ _ (match ((if (b.size : Int) - 0 < (c.size : Int) then none else some (Int.toNat 0, Int.toNat (b.size : Int))).bind fun (p : Nat × Nat) => Bytes.find? b c p.1 p.2) with | some i => retInt i | none => _) _ _ s
  rw [hfind]
  unfold findI at h
  cases hf : Bytes.find? b c 0 b.size with
  | some i =>
    rw [hf] at h
    unfold retInt
    exact wpAny_bind (wpAny_mkInt (wpAny_pure ⟨_, rfl, h _ _⟩))
  | none =>
    rw [hf] at h
    refine wpAny_bind (wpAny_rule ?_)
    exact wpAny_bind (wpAny_mkInt (wpAny_pure ⟨_, rfl, h _ _⟩))
theorem find (h : ∀ t' k, Q (.int (findI b c) t') { s with toks := k }) : wpAny (model prog w) A (call (.builtin "bytes.find") [.bytes b t, .bytes c u]) Q E s :=
  call_meets slot_find (typeIs_bytes _ _ _) entry_find (args_find _ _) (meets_find b c t u) h
theorem find_method {M : Model} {pl : Sem Bool} {Q : Value × List Value → Shared → Prop} (h : Q (.builtin "bytes.find", [.bytes b t]) s) : wpAny M A (getMethod (.bytes b t) "find" pl) Q E s := by
  with_reducible exact KBd.method_of (.bytes b t) (typeIs_bytes _ _ _) slot_find type_find KBd.noRef h

theorem strip_size (c b : Array UInt8) : (stripBy c b).size ≤ b.size := by
  unfold stripBy
  have h1 : ∀ (l : List UInt8), (l.dropWhile c.toList.contains).length ≤ l.length := fun l => (List.dropWhile_sublist _).length_le
  simp only [List.size_toArray, List.length_reverse]
  have := h1 (b.toList.dropWhile c.toList.contains).reverse
  have := h1 b.toList
  simp at *
  omega
theorem strip_same (c b : Array UInt8) (h : ((b.toList.dropWhile c.toList.contains).reverse.dropWhile c.toList.contains).reverse.length = b.size) : stripBy c b = b := by
  unfold stripBy
  have s1 : (b.toList.dropWhile c.toList.contains).Sublist b.toList := List.dropWhile_sublist _
  have s2 : ((b.toList.dropWhile c.toList.contains).reverse.dropWhile c.toList.contains).Sublist (b.toList.dropWhile c.toList.contains).reverse := List.dropWhile_sublist _
  have h1 := s1.length_le
  have h2 := s2.length_le
  simp only [List.length_reverse, Array.length_toList] at h h1 h2
  have e2 := s2.eq_of_length (by simp; omega)
  have e1 := s1.eq_of_length (by simp; omega)
  rw [e2, e1]; simp
theorem meets_strip (b c : Array UInt8) (t u : Tok) : Meets («bytes.strip» ⟨[.bytes b t, .bytes c u], []⟩) (fun _ R s => b.size ≤ sizeLine ∧ ∀ t' k, R (.ok (.ret (.bytes (stripBy c b) t'))) { s with toks := k }) := by
  refine .of_wp fun prog w A R s hS => ?_
  obtain ⟨hz, h⟩ := hS
  show wpAny _ _ (Bytes.bytesLike _ (.bytes c u) >>= fun r => _) _ _ s
  refine wpAny_bind (wpAny_of_eq KBd.like_eq ?_)
  rw [show (c.contains : UInt8 → Bool) = fun x => c.toList.contains x from contains_fun c]
  refine wpAny_bind (wpAny_pure ?_)
  show wpAny _ _ (Bytes.payload (.bytes b t) >>= fun r => _) _ _ s
  refine wpAny_bind (wpAny_of_eq (a := b) rfl ?_)
  refine wpAny_ite (ite_both (fun hc => ?_) fun hc => ?_)
  · refine wpAny_bind (wpAny_rule ?_)
    have e := strip_same c b (eq_of_beq hc)
    rw [e] at h
    refine wpAny_bind (wpAny_bind (wpAny_typeOf (typeIs_bytes s b t) ?_))
    exact wpAny_pure (wpAny_pure ⟨_, rfl, h _ _⟩)
  · exact wpAny_bind (wpAny_mkBytes (wpAny_pure ⟨_, rfl, h _ _⟩) (Nat.le_trans (strip_size c b) hz))
theorem strip (hz : b.size ≤ 16777216) (h : ∀ t' k, Q (.bytes (stripBy c b) t') { s with toks := k }) : wpAny (model prog w) A (call (.builtin "bytes.strip") [.bytes b t, .bytes c u]) Q E s :=
  call_meets slot_strip (typeIs_bytes _ _ _) entry_strip (args_strip _ _) (meets_strip b c t u) ⟨by rw [sizeLine_eq]; exact hz, h⟩
theorem strip_method {M : Model} {pl : Sem Bool} {Q : Value × List Value → Shared → Prop} (h : Q (.builtin "bytes.strip", [.bytes b t]) s) : wpAny M A (getMethod (.bytes b t) "strip" pl) Q E s := by
  with_reducible exact KBd.method_of (.bytes b t) (typeIs_bytes _ _ _) slot_strip type_strip KBd.noRef h

/-- startswith -/
def startsB (b c : Array UInt8) : Bool := if (b.size : Int) - 0 < (c.size : Int) then false else b.extract 0 (0 + c.size) == c
theorem sub_tuple : isSubtype (.type "bytes") (.type "tuple") = pure false := by rw [isSubtype_type]; kernel_rfl
theorem meets_starts (b c : Array UInt8) (t u : Tok) : Meets («bytes.startswith» ⟨[.bytes b t, .bytes c u], []⟩) (fun _ R s => ∀ k, R (.ok (.ret (.bool (startsB b c)))) { s with toks := k }) := by
  refine .of_wp fun prog w A R s h => ?_
  have hw := window_all b.size
  have e1 : Min.min (b.size : Int) ((fun i : Int => if i < 0 then Max.max 0 (i + (b.size : Int)) else i) ((none : Option Int).getD (b.size : Int))) = b.size := congrArg Prod.snd hw
  have e2 : (fun i : Int => if i < 0 then Max.max 0 (i + (b.size : Int)) else i) ((none : Option Int).getD 0) = 0 := congrArg Prod.fst hw
  refine wpAny_bind (wpAny_of_eq (a := (Value.bytes b t, [Value.bytes c u])) rfl ?_)
  refine wpAny_bind (wpAny_pure (wpAny_bind (wpAny_pure ?_)))
  refine wpAny_bind (wpAny_of_eq (a := b) rfl ?_)
  refine wpAny_bind (wpAny_isInstance (typeIs_bytes s c u) sub_tuple ?_)
  show wpAny _ _ (Bytes.buffer? _ (.bytes c u) >>= fun r => _) _ _ s
  refine wpAny_bind (wpAny_of_eq KBy.buffer_eq ?_)
  refine wpAny_pure ⟨_, rfl, ?_⟩
  have := h s.toks
  unfold startsB at this
  rw [← e1, ← e2] at this
  exact this
theorem starts (h : ∀ k, Q (.bool (startsB b c)) { s with toks := k }) : wpAny (model prog w) A (call (.builtin "bytes.startswith") [.bytes b t, .bytes c u]) Q E s :=
  call_meets FB.slot_bytes_startswith (typeIs_bytes _ _ _) FB.entry_bytes_startswith (FB.args_bytes_startswith_2 _ _) (meets_starts b c t u) h
theorem starts_method {M : Model} {pl : Sem Bool} {Q : Value × List Value → Shared → Prop} (h : Q (.builtin "bytes.startswith", [.bytes b t]) s) : wpAny M A (getMethod (.bytes b t) "startswith" pl) Q E s := by
  with_reducible exact KBd.method_of (.bytes b t) (typeIs_bytes _ _ _) FB.slot_bytes_startswith FB.type_bytes_startswith KBd.noRef h

/-- values that are bytes objects -/
inductive BAre : List Value → List (Array UInt8) → Prop
  | nil : BAre [] []
  | cons (b' : Array UInt8) (t' : Tok) {vs : List Value} {bs : List (Array UInt8)} (h : BAre vs bs) : BAre (.bytes b' t' :: vs) (b' :: bs)
theorem BAre.length {vs : List Value} {bs : List (Array UInt8)} (h : BAre vs bs) : vs.length = bs.length := by
  induction h with
  | nil => rfl
  | cons b t h ih => simp [ih]
theorem BAre.get {vs : List Value} {bs : List (Array UInt8)} (h : BAre vs bs) : ∀ (i : Nat) (hi : i < bs.length), ∃ t, vs[i]? = some (.bytes bs[i] t) := by
  induction h with
  | nil => intro i hi; exact absurd hi (Nat.not_lt_zero _)
  | cons b t h ih =>
    intro i hi
    cases i with
    | zero => exact ⟨t, rfl⟩
    | succ i => exact ih i (by simpa using hi)
theorem wpAny_mapM_mkBytes {M : Model} {A : Around} {E : Value → Shared → Prop} : ∀ (l : List (Array UInt8)) {s : Shared} {Q : List Value → Shared → Prop} (_ : ∀ p ∈ l, p.size ≤ sizeLine)
    (_ : ∀ vs k, BAre vs l → Q vs { s with toks := k }), wpAny M A (l.mapM mkBytes) Q E s
  | [], s, Q, _, h => by
    rw [List.mapM_nil]
    exact wpAny_pure (h [] s.toks .nil)
  | p :: l, s, Q, hz, h => by
    rw [List.mapM_cons]
    refine wpAny_bind (wpAny_mkBytes ?_ (hz p (List.mem_cons_self ..)))
    refine wpAny_bind (wpAny_mapM_mkBytes l (fun q hq => hz q (List.mem_cons_of_mem _ hq)) fun vs k hb => ?_)
    exact wpAny_pure (h _ _ (.cons _ _ hb))
theorem between_nil (b : Array UInt8) (n : Nat) : Bytes.between b n [] = [b] := by
  unfold Bytes.between; simp
theorem between_fold (b : Array UInt8) (n : Nat) : ∀ (l : List Nat) (acc : Array (Array UInt8)) (i : Nat), (∀ p ∈ acc, p.size ≤ b.size) →
    ∀ p ∈ (l.foldl (fun (x : Array (Array UInt8) × Nat) q => (x.1.push (b.extract x.2 q), q + n)) (acc, i)).1, p.size ≤ b.size
  | [], acc, i, h => h
  | q :: l, acc, i, h => by
    refine between_fold b n l _ _ fun p hp => ?_
    rcases Array.mem_push.mp hp with hp | rfl
    · exact h p hp
    · simp; omega
theorem between_size (b : Array UInt8) (n : Nat) (l : List Nat) : ∀ p ∈ Bytes.between b n l, p.size ≤ b.size := by
  intro p hp
  unfold Bytes.between at hp
  have hf := between_fold b n l #[] 0 (by simp)
  revert hp
  show p ∈ (((l.foldl (fun (x : Array (Array UInt8) × Nat) q => (x.1.push (b.extract x.2 q), q + n)) (#[], 0)).1.push (b.extract _ b.size)).toList) → _
  intro hp
  rw [Array.mem_toList_iff] at hp
  rcases Array.mem_push.mp hp with hp | rfl
  · exact hf p hp
  · simp
theorem between_len (b : Array UInt8) (n : Nat) (l : List Nat) : (Bytes.between b n l).length = l.length + 1 := by
  have key : ∀ (l : List Nat) (acc : Array (Array UInt8)) (i : Nat), (l.foldl (fun (x : Array (Array UInt8) × Nat) q => (x.1.push (b.extract x.2 q), q + n)) (acc, i)).1.size = acc.size + l.length := by
    intro l
    induction l with
    | nil => intro acc i; rfl
    | cons q l ih => intro acc i; rw [List.foldl_cons, ih]; simp; omega
  show (((l.foldl (fun (x : Array (Array UInt8) × Nat) q => (x.1.push (b.extract x.2 q), q + n)) (#[], 0)).1.push (b.extract _ b.size)).toList).length = _
  rw [Array.length_toList, Array.size_push, key]; simp
theorem occ_len (b c : Array UInt8) : (Bytes.occurrences b c 0 b.size).length ≤ b.size + 1 := by
  unfold Bytes.occurrences
  have key : ∀ (l : List Nat) (st : List Nat × Nat), (l.foldl (fun (acc : List Nat × Nat) (i : Nat) => if (decide (i ≥ acc.2) && b.extract i (i + c.size) == c) = true then (i :: acc.1, i + c.size) else acc) st).1.length ≤ st.1.length + l.length := by
    intro l
    induction l with
    | nil => intro st; simp
    | cons q l ih =>
      intro st
      rw [List.foldl_cons]
      refine Nat.le_trans (ih _) ?_
      split <;> simp <;> omega
  rw [List.length_reverse]
  refine Nat.le_trans (key _ _) ?_
  simp
theorem split_take (b c : Array UInt8) : (Bytes.occurrences b c 0 b.size).take (b.size + 1) = Bytes.occurrences b c 0 b.size := List.take_of_length_le (occ_len b c)
theorem meets_split (b c : Array UInt8) (t u : Tok) : Meets («bytes.split» ⟨[.bytes b t, .bytes c u], []⟩) (fun _ R s => b.size < sizeLine ∧ c.isEmpty = false ∧ (splitBy b c).length ≤ sizeLine ∧
    ∀ vs k, BAre vs (splitBy b c) → R (.ok (.ret (.ref s.heap.objs.size))) { s with heap := s.heap.push (listOf vs.toArray 0), toks := k }) := by
  refine .of_wp fun prog w A R s hS => ?_
  obtain ⟨hz, hc, hl, h⟩ := hS
  refine wpAny_bind (wpAny_of_eq (a := [some (Value.bytes c u), none]) rfl ?_)
  refine wpAny_bind (wpAny_pure ?_)
  refine wpAny_bind (wpAny_of_eq (a := b) rfl ?_)
  show wpAny _ _ (Bytes.bytesLike _ (.bytes c u) >>= fun r => _) _ _ s
  refine wpAny_bind (wpAny_of_eq KBd.like_eq ?_)
  rw [hc]
  have ht := split_take b c
  show wpAny _ _ (if ((Bytes.occurrences b c 0 b.size).take (b.size + 1)).isEmpty = true then _ else _) _ _ s
  rw [ht]
  refine wpAny_ite (ite_both (fun he => ?_) fun he => ?_)
  · have e : splitBy b c = [b] := by
      unfold splitBy
      rw [List.isEmpty_iff.mp he, between_nil]
    rw [e] at h
    refine wpAny_bind (wpAny_rule ?_)
    refine wpAny_bind (wpAny_bind (wpAny_typeOf (typeIs_bytes s b t) ?_))
    refine wpAny_pure (wpAny_bind (wpAny_newList ?_ (by show (1 : Nat) ≤ sizeLine; decide)))
    exact wpAny_pure ⟨_, rfl, h _ _ (.cons _ _ .nil)⟩
  · refine wpAny_bind (wpAny_mapM_mkBytes _ (fun p hp => Nat.le_trans (between_size b c.size _ p hp) (Nat.le_of_lt hz)) fun vs k hb => ?_)
    have hb : BAre vs (splitBy b c) := by
      unfold splitBy; rw [← ht]; exact hb
    refine wpAny_bind (wpAny_newList ?_ (by rw [hb.length]; exact hl))
    exact wpAny_pure ⟨_, rfl, h _ _ hb⟩
theorem split (hz : b.size < 16777000) (hc : c.isEmpty = false) (h : ∀ vs k, BAre vs (splitBy b c) → Q (.ref s.heap.objs.size) { s with heap := s.heap.push (listOf vs.toArray 0), toks := k }) :
    wpAny (model prog w) A (call (.builtin "bytes.split") [.bytes b t, .bytes c u]) Q E s :=
  call_meets slot_split (typeIs_bytes _ _ _) entry_split (args_split _ _) (meets_split b c t u) ⟨by rw [sizeLine_eq]; omega, hc, by
    have h1 := between_len b c.size (Bytes.occurrences b c 0 b.size)
    have h2 := occ_len b c
    rw [sizeLine_eq]; unfold splitBy; omega, h⟩
theorem split_method {M : Model} {pl : Sem Bool} {Q : Value × List Value → Shared → Prop} (h : Q (.builtin "bytes.split", [.bytes b t]) s) : wpAny M A (getMethod (.bytes b t) "split" pl) Q E s := by
  with_reducible exact KBd.method_of (.bytes b t) (typeIs_bytes _ _ _) slot_split type_split KBd.noRef h

theorem forIn_range {M : Model} {A : Around} {E : Value → Shared → Prop} {β : Type} {f : Nat → β → Sem (ForInStep β)} (I : Nat → β → Shared → Prop) {Q : β → Shared → Prop} :
    ∀ (n k : Nat) (b : β) (s : Shared), I k b s → (∀ i b s, k ≤ i → i < k + n → I i b s → wpAny M A (f i b) (fun r s' => ∃ b', r = .yield b' ∧ I (i + 1) b' s') E s) → (∀ b s, I (k + n) b s → Q b s) →
    wpAny M A (forIn (List.range' k n 1) b f) Q E s
  | 0, k, b, s, hI, _, hQ => by
    rw [List.range'_zero, List.forIn_nil]
    exact wpAny_pure (hQ b s hI)
  | n + 1, k, b, s, hI, hT, hQ => by
    rw [List.range'_succ, List.forIn_cons]
    refine wpAny_bind (wpAny_mono (hT k b s (Nat.le_refl _) (by omega) hI) (fun r s' hr => ?_) fun _ _ e => e)
    obtain ⟨b', rfl, hI'⟩ := hr
    exact forIn_range I n (k + 1) b' s' hI' (fun i b s h1 h2 => hT i b s (by omega) (by omega)) fun b s h => hQ b s (by rw [show k + (n + 1) = k + 1 + n by omega]; exact h)
theorem take_eq {id : String} {n : Int} : Bytes.takeBufferQuiet? id (.bytes b t) n = pure (some (b, none)) := by
  unfold Bytes.takeBufferQuiet? Bytes.takeBuffer?
  rw [KBy.special_eq KBy.look_buffer, KBy.own_buffer]
  simp only [pure_bind]
  kernel_rfl
theorem wpAny_joinLetGo {M : Model} {A : Around} {E : Value → Shared → Prop} {keep : List Value} {Q : Unit → Shared → Prop} : ∀ (l : List (Value × Option Value)) {s : Shared} (_ : ∀ p ∈ l, p.2 = none) (_ : Q () s), wpAny M A (Bytes.joinLetGo l keep) Q E s
  | [], s, _, h => by unfold Bytes.joinLetGo; exact wpAny_pure h
  | (x, o) :: l, s, hn, h => by
    have e : o = none := hn (x, o) (List.mem_cons_self ..)
    subst e
    unfold Bytes.joinLetGo
    exact wpAny_bind (wpAny_letGo (wpAny_joinLetGo l (fun p hp => hn p (List.mem_cons_of_mem _ hp)) h))
def joinB (c : Array UInt8) (bs : List (Array UInt8)) : Array UInt8 := Bytes.joined c bs
theorem BAre.getD {vs : List Value} {bs : List (Array UInt8)} (h : BAre vs bs) (i : Nat) (hi : i < bs.length) : ∃ t, vs.toArray.getD i .none = .bytes bs[i] t := by
  obtain ⟨t, ht⟩ := h.get i hi
  refine ⟨t, ?_⟩
  rw [List.getElem?_eq_some_iff] at ht
  obtain ⟨h1, h2⟩ := ht
  simp [Array.getD, h1, h2]
theorem sizes_fold (z : Nat) : ∀ (bs : List (Array UInt8)) (n : Nat), (∀ p ∈ bs, p.size ≤ z) → bs.foldl (fun n p => n + p.size) n ≤ n + bs.length * z
  | [], n, _ => by simp
  | p :: bs, n, h => by
    rw [List.foldl_cons]
    refine Nat.le_trans (sizes_fold z bs _ fun q hq => h q (List.mem_cons_of_mem _ hq)) ?_
    have := h p (List.mem_cons_self ..)
    rw [List.length_cons, Nat.succ_mul]; omega
set_option maxHeartbeats 1000000 in
theorem meets_join (c : Array UInt8) (t : Tok) (l : Addr) (o : Obj) (n : Nat) (vs : List Value) (bs : List (Array UInt8)) : Meets («bytes.join» ⟨[.bytes c t, .ref l], []⟩) (fun _ R s => s.heap.get? l = some o ∧ o.cls = .type "list" ∧ o.data = .seq vs.toArray n ∧ BAre vs bs ∧
    Bytes.tooLong (bs.foldl (fun n p => n + p.size) (c.size * (bs.length - 1))) = false ∧ (joinB c bs).size ≤ sizeLine ∧ ∀ t' k, R (.ok (.ret (.bytes (joinB c bs) t'))) { s with toks := k }) := by
  refine .of_wp fun prog w A R s hS => ?_
  obtain ⟨ho, hcl, hd, hb, hz, hz2, h⟩ := hS
  refine wpAny_bind (wpAny_of_eq (a := (Value.bytes c t, Value.ref l)) rfl ?_)
  show wpAny _ _ (Bytes.joinItems (.ref l) >>= fun r => _) _ _ s
  have hT : s.TypeIs (.ref l) "list" := ⟨o, ho, hcl⟩
  refine wpAny_bind ?_
  unfold Bytes.joinItems
  refine wpAny_bind (wpAny_typeOf hT ?_)
  refine wpAny_ite (KBc.ite_yes rfl (wpAny_pure ?_))
  refine wpAny_bind (wpAny_seqItems ho hd ?_)
  refine wpAny_ite (KBc.ite_yes rfl ?_)
  have hlen := hb.length
  rcases vs with _ | ⟨x, _ | ⟨y, r⟩⟩
  rotate_left
  · cases hb with
    | cons b' t' hb =>
      cases hb
      refine wpAny_bind (wpAny_typeOf (typeIs_bytes s _ _) ?_)
      refine wpAny_ite (KBc.ite_yes rfl ?_)
      refine wpAny_bind (wpAny_rule ?_)
      have e : joinB c [b'] = b' := by simp [joinB, Bytes.joined]
      rw [e] at h
      exact wpAny_bind (wpAny_pure (wpAny_pure ⟨_, rfl, h _ _⟩))
  all_goals
    refine wpAny_bind ?_
    rw [KPc.range_list]
    refine forIn_range (fun i st s' => s' = s ∧ st.1 = (bs.take i).toArray ∧ (∀ p ∈ st.2, p.2 = none) ∧ (∀ p ∈ st.2, p.1.onHeap = false)) _ _ _ _ ⟨rfl, rfl, by simp, by simp⟩ (fun i st s' _ hi hI => ?_) (fun st s' hI => ?_)
    · obtain ⟨rfl, h1, h2, h3⟩ := hI
      refine wpAny_bind (wpAny_seqItems ho hd ?_)
      have hi' : i < bs.length := by rw [← hlen]; simpa using hi
      obtain ⟨t', ht'⟩ := hb.getD i hi'
      refine wpAny_ite (KBy.ite_no ?_ ?_)
      · have : (st.2.any fun x => x.fst.onHeap) = false := by
          rw [List.any_eq_false]; intro p hp; rw [h3 p hp]; decide
        rw [this]; decide
      refine wpAny_bind (wpAny_holding ?_)
      rw [ht']
      refine wpAny_of_eq take_eq ?_
      refine wpAny_bind (wpAny_seqItems ho hd ?_)
      refine wpAny_ite (KBy.ite_no (by simp) ?_)
      refine wpAny_pure ⟨_, rfl, rfl, ?_, ?_, ?_⟩
      · show st.1.push _ = _
        rw [h1, List.push_toArray, List.take_succ_eq_append_getElem hi']
      · intro p hp
        rcases List.mem_append.mp hp with hp | hp
        · exact h2 p hp
        · rw [List.mem_singleton.mp hp]
      · intro p hp
        rcases List.mem_append.mp hp with hp | hp
        · exact h3 p hp
        · rw [List.mem_singleton.mp hp]; rfl
    · obtain ⟨rfl, h1, h2, h3⟩ := hI
      have h1 : st.1 = bs.toArray := by
        rw [h1, List.take_of_length_le (by rw [← hlen]; simp)]
      refine wpAny_bind (wpAny_of_eq (a := c) rfl ?_)
      rw [h1]
      refine wpAny_ite (KBy.ite_no ?_ ?_)
      · have : Array.foldl (fun x1 x2 => x1 + Array.size x2) (c.size * (bs.toArray.size - 1)) bs.toArray = bs.foldl (fun n p => n + p.size) (c.size * (bs.length - 1)) := by simp
        rw [this, hz]; decide
      refine wpAny_bind (wpAny_mkBytes ?_ hz2)
      refine wpAny_bind (wpAny_holding (wpAny_point ?_))
      refine wpAny_bind (wpAny_joinLetGo _ h2 ?_)
      exact wpAny_pure ⟨_, rfl, h _ _⟩
theorem joinB_size (c : Array UInt8) (bs : List (Array UInt8)) (z : Nat) (hc : c.size ≤ z) (h : ∀ p ∈ bs, p.size ≤ z) : (joinB c bs).size ≤ 2 * z * bs.length := by
  unfold joinB Bytes.joined
  have key : ∀ (l : List (Array UInt8 × Nat)) (acc : Array UInt8), (∀ p ∈ l, p.1.size ≤ z) → (l.foldl (fun out (x : Array UInt8 × Nat) => (if x.2 > 0 then out ++ c else out) ++ x.1) acc).size ≤ acc.size + 2 * z * l.length := by
    intro l
    induction l with
    | nil => intro acc _; simp
    | cons p l ih =>
      intro acc h
      rw [List.foldl_cons]
      refine Nat.le_trans (ih _ fun q hq => h q (List.mem_cons_of_mem _ hq)) ?_
      have := h p (List.mem_cons_self ..)
      rw [List.length_cons, Nat.mul_succ]
      split <;> simp <;> omega
  refine Nat.le_trans (key _ _ fun p hp => ?_) ?_
  · exact h p.1 (by
      have := List.mem_zipIdx hp
      rw [this.2.2]; exact List.getElem_mem _)
  · simp
theorem join {n : Nat} {l : Addr} {vs : List Value} {bs : List (Array UInt8)} {z : Nat} (hl : s.heap.IsList l vs.toArray) (hb : BAre vs bs) (hc : c.size ≤ z) (hz : ∀ p ∈ bs, p.size ≤ z) (hn : bs.length ≤ n) (hnz : 2 * z * n ≤ 16777216)
    (h : ∀ t' k, Q (.bytes (joinB c bs) t') { s with toks := k }) : wpAny (model prog w) A (call (.builtin "bytes.join") [.bytes c t, .ref l]) Q E s := by
  obtain ⟨o, ho, hcl, k, hd⟩ := hl
  have hm : 2 * z * bs.length ≤ 2 * z * n := Nat.mul_le_mul_left _ hn
  refine call_meets slot_join (typeIs_bytes _ _ _) entry_join (args_join _ _) (meets_join c t l o _ vs bs) ⟨ho, hcl, hd, hb, ?_, ?_, h⟩
  · refine KBy.tooLong_not ?_
    refine Nat.le_trans (sizes_fold z bs _ hz) ?_
    cases bs with
    | nil => simp
    | cons b bs =>
      simp only [List.length_cons, Nat.add_sub_cancel] at *
      have : c.size * bs.length ≤ z * bs.length := Nat.mul_le_mul_right _ hc
      have e1 : 2 * z * (bs.length + 1) = z * bs.length + z * bs.length + 2 * z := by rw [Nat.mul_succ, Nat.mul_assoc, Nat.two_mul]
      have e2 : (bs.length + 1) * z = z * bs.length + z := by rw [Nat.succ_mul, Nat.mul_comm]
      omega
  · rw [sizeLine_eq]
    exact Nat.le_trans (joinB_size c bs z hc hz) (Nat.le_trans hm hnz)
theorem join_method {M : Model} {pl : Sem Bool} {Q : Value × List Value → Shared → Prop} (h : Q (.builtin "bytes.join", [.bytes b t]) s) : wpAny M A (getMethod (.bytes b t) "join" pl) Q E s := by
  with_reducible exact KBd.method_of (.bytes b t) (typeIs_bytes _ _ _) slot_join type_join KBd.noRef h
end BB
end Mine
namespace Mine
theorem rules3 : True := by
  w_top off
  k_with_none
  k_with "execs cons" => (k_here; (try k_gentoks); (with_reducible refine execs_hide ?_); intro «Q✝» «k✝»; try dsimp only)
  trivial
/-! what the deck's lines look like -/
def okb (x : UInt8) : Bool := x != 10 && decide (x < 128)
def noHash (b : Array UInt8) : Bool := b.toList.all fun x => okb x && x != 35
def afterHash : List UInt8 → Option (List UInt8)
  | [] => none
  | x :: r => if x = 35 then some r else afterHash r
def blankSet : Array UInt8 := #[32, 9, 13]
def missB : Array UInt8 := #[64, 109, 105, 115, 115, 105, 110, 103, 58]
def missOk (l : List UInt8) : Bool := match afterHash l with
  | none => true
  | some r => !(r.contains 35) || !(missB.toList.isPrefixOf (BB.stripBy blankSet r.toArray).toList)
def goodTail (b : Array UInt8) : Bool := b.toList.all okb && missOk b.toList && decide (b.size ≤ 60)
/-- a line of the deck -/
structure Good (b : Array UInt8) : Prop where
  ok : ∀ x ∈ b.toList, okb x = true
  miss : missOk b.toList = true
  size : b.size ≤ 200
theorem afterHash_append {x : List UInt8} (h : ∀ c ∈ x, c ≠ 35) (y : List UInt8) : afterHash (x ++ y) = afterHash y := by
  induction x with
  | nil => rfl
  | cons c x ih =>
    have h1 := h c (List.mem_cons_self ..)
    show (if c = 35 then _ else afterHash (x ++ y)) = _
    rw [if_neg h1]
    exact ih fun d hd => h d (List.mem_cons_of_mem _ hd)
theorem Good.of {b c : Array UInt8} (hb : noHash b = true) (hs : b.size ≤ 130) (hc : goodTail c = true) : Good (b ++ c) := by
  unfold goodTail at hc
  simp only [Bool.and_eq_true, decide_eq_true_eq] at hc
  obtain ⟨⟨h1, h2⟩, h3⟩ := hc
  have hb' := List.all_eq_true.mp hb
  refine ⟨?_, ?_, ?_⟩
  · intro x hx
    rw [Array.toList_append] at hx
    rcases List.mem_append.mp hx with hx | hx
    · have := hb' x hx
      simp only [Bool.and_eq_true] at this
      exact this.1
    · exact List.all_eq_true.mp h1 x hx
  · unfold missOk
    rw [Array.toList_append, afterHash_append (fun x hx => by
      have := hb' x hx
      simp only [Bool.and_eq_true, bne_iff_ne, ne_eq] at this
      exact this.2)]
    exact h2
  · rw [Array.size_append]; omega
theorem Good.tail {c : Array UInt8} (hc : goodTail c = true) : Good c := by
  have := Good.of (b := #[]) (c := c) rfl (by decide) hc
  simpa using this
theorem noHash_append {b c : Array UInt8} (hb : noHash b = true) (hc : noHash c = true) : noHash (b ++ c) = true := by
  unfold noHash at *
  rw [Array.toList_append, List.all_append, hb, hc]; rfl
theorem noHash_joinB {c : Array UInt8} (hc : noHash c = true) (bs : List (Array UInt8)) (h : ∀ b ∈ bs, noHash b = true) : noHash (BB.joinB c bs) = true := by
  unfold BB.joinB Builtin.Bytes.joined
  have key : ∀ (l : List (Array UInt8 × Nat)) (acc : Array UInt8), noHash acc = true → (∀ p ∈ l, noHash p.1 = true) → noHash (l.foldl (fun out (x : Array UInt8 × Nat) => (if x.2 > 0 then out ++ c else out) ++ x.1) acc) = true := by
    intro l
    induction l with
    | nil => intro acc h _; exact h
    | cons p l ih =>
      intro acc h h2
      rw [List.foldl_cons]
      refine ih _ (noHash_append ?_ (h2 p (List.mem_cons_self ..))) fun q hq => h2 q (List.mem_cons_of_mem _ hq)
      split
      · exact noHash_append h hc
      · exact h
  refine key _ _ rfl fun p hp => ?_
  have := List.mem_zipIdx hp
  exact h p.1 (by rw [this.2.2]; exact List.getElem_mem _)
def fieldB (b : Array UInt8) : Bool := noHash b && decide (b.size ≤ 16)
end Mine
namespace Mine
theorem rules6 : True := by
  w_top off
  k_with_none
  k_with "execs cons" => (k_here; (try k_gentoks); (with_reducible refine execs_hide ?_); intro «Q✝» «k✝»; try dsimp only)
  trivial

/-- the two entries of the deck's dict -/
abbrev deckKvs (C : Addr) (mx : Int) (t : Tok) : List (Str × Value) := [(Str.ofString "cells", .ref C), (Str.ofString "mixed", .int mx t)]
abbrev Off (a : Addr) (l : List (Addr × Obj)) : Prop := ∀ p ∈ l, p.1 ≠ a

section
variable {w : World} {A : Around} {E : Value → Shared → Prop} {s : Shared} {h₀ : Heap} {L D C : Addr} {m : Str → Option Value} {news : List (Addr × Obj)} {prog : Program}

theorem deck_item {o : Obj} {kvs : List (Str × Value)} {x : Str} {t : Tok} {v : Value} {value slice : Expr} {Q : Value → Shared → Prop} (N : News h₀ L s.heap news) (hm : (D, o) ∈ news) (hd : o.IsDictOf (strKind prog w) kvs)
    (hv : valueAt kvs x = some v) (h : Q v { s with toks := s.toks + 1 })
    (hs : subscripted slice false (.ref D) (.str x t) = operate [.ref D, .str x t] (getItem (.ref D) (.str x t)) := by with_unfolding_all rfl) :
    wpAny (model prog w) A (subscriptTail value slice (.ref D) (.str x t)) Q E s := by
  have hd' : s.heap.DictOf (strKind prog w) D kvs := Heap.dictOf_iff.mpr ⟨o, N.get hm, hd⟩
  have hmp := hd'.mapOf
  exact tail_any hmp.typeIs slot_dict_getitem.lookup (wpAny_getItem_of (strKind_is prog w x t) hmp hv h) hs

theorem deck_set {o : Obj} {kvs : List (Str × Value)} {x : Str} {t : Tok} {v : Value} {g : Obj → List (Addr × Obj)} {Q : Unit → Shared → Prop} (F : Fr h₀ L s.heap m) (N : News h₀ L s.heap news) (U : UpdF D o news g) (hd : o.IsDictOf (strKind prog w) kvs)
    (hz : kvs.length ≤ 1000)
    (h : ∀ h' o', Fr h₀ L h' m → News h₀ L h' (g o') → o'.IsDictOf (strKind prog w) (stored kvs x v) → Q () { s with heap := h', toks := s.toks + 1 }) :
    wpAny (model prog w) A (setItem (.ref D) (.str x t) v) Q E s := by
  obtain ⟨pre, post, rfl, hg, off1, off2⟩ := U.split
  have hmem : (D, o) ∈ pre ++ (D, o) :: post := by simp
  have hd' : s.heap.DictOf (strKind prog w) D kvs := Heap.dictOf_iff.mpr ⟨o, N.get hmem, hd⟩
  have hN := N _ hmem
  refine wpAny_setItem_pairs (strKind_is prog w x t) hd' (fun h' hd₂ hs => ?_) (by rw [sizeLine_eq]; omega)
  obtain ⟨o', ho', hdo⟩ := Heap.dictOf_iff.mp hd₂
  refine h h' o' (F.change hs hN.2.1 hN.2.2) (fun p hp => ?_) hdo
  rw [hg] at hp
  rcases List.mem_append.mp hp with hp | hp
  · have := N p (List.mem_append_left _ hp)
    exact ⟨(hs.2 p.1 (off1 p hp)).trans this.1, this.2⟩
  · rcases List.mem_cons.mp hp with rfl | hp
    · exact ⟨ho', hN.2⟩
    · have := N p (List.mem_append_right _ (List.mem_cons_of_mem _ hp))
      exact ⟨(hs.2 p.1 (off2 p hp)).trans this.1, this.2⟩
end

theorem pop_ne {vs : List Value} {ns : List Int} (hi : IntsAre vs ns) (h : decide (ns = []) = false) : 0 < vs.length := by
  have h1 := IntsAre.length hi
  have h2 : ns ≠ [] := of_decide_eq_false h
  cases ns with
  | nil => exact absurd rfl h2
  | cons a r => simp at h1; omega
theorem pop_room {vs : List Value} {ns : List Int} (hi : IntsAre vs ns) (h : ns.length ≤ 63) : vs.length ≤ sizeLine := by
  have h1 := IntsAre.length hi
  rw [sizeLine_eq]; omega
theorem news_tail {h₀ h : Heap} {L : Addr} {p : Addr × Obj} {news : List (Addr × Obj)} (N : News h₀ L h (p :: news)) : News h₀ L h news := fun q hq => N q (List.mem_cons_of_mem _ hq)
theorem fmod_in (x : Int) {k : Int} (h : 0 < k) : 0 ≤ x.fmod k ∧ x.fmod k < k := ⟨Int.fmod_nonneg_of_pos x h, Int.fmod_lt_of_pos x h⟩
def bytesOf : Value → Option (Array UInt8)
  | .bytes b _ => some b
  | _ => none
def menu (vals : List Value) : List (Array UInt8) := vals.filterMap bytesOf
def allBytes (vals : List Value) : Bool := vals.all fun v => (bytesOf v).isSome
theorem menu_get {vals : List Value} (h : allBytes vals = true) {v : Value} (hv : v ∈ vals) : ∃ b t, v = .bytes b t ∧ b ∈ menu vals := by
  have h1 := List.all_eq_true.mp h v hv
  cases v with
  | bytes b t => exact ⟨b, t, rfl, List.mem_filterMap.mpr ⟨_, hv, rfl⟩⟩
  | _ => simp [bytesOf] at h1
/-- the deck stands in the ledger: its dict, its list of ints; the rest lies apart -/
structure Deck (w : World) (D C : Addr) (od oc : Obj) (news : List (Addr × Obj)) : Prop where
  ex : ∃ vs ns k mx t, oc = listOf vs.toArray k ∧ IntsAre vs ns ∧ ns.length ≤ 63 ∧ od.IsDictOf (strKind PySem.Challenge.rw_nt0003_01.prog w) (deckKvs C mx t)
  ne : @Ne Nat D C
  offD : Off D news
  offC : Off C news

section
variable {w : World} {loose : List Str} {mean : ExcName → Option Value} {mg mb : Str → Option Value} {dp un : Nat} {gd : Option (List Code)} {cn : Str} {cs : Scope} {a : Addr} {ccd : Value} {cl : List (Str × Addr)} {outer : List Env} {A₀ : Around} {base h₀ : Heap} {L : Addr} {m : Str → Option Value} {s : Shared} {Q E : Value → Shared → Prop} {news : List (Addr × Obj)}
theorem rules4 : True := by
  k_with "setItem ref str" => (k_here; k_dflt (refine' deck_set ?qqF ?qqN ?qqU ?qqd ?qqz ?_; (case qqF => k_asm); (case qqN => k_asm); (case qqU => k_updF); (case qqd => assumption); (case qqz => decide)); intro h' o' F' N' hd'; (try dsimp only at N'); (try k_sweep))
  k_with "call builtin:list.pop" => (k_here; k_dflt (refine' kpa_pop ?qqF ?qqN ?qqU ?qqi ?qql ?qqz ?_; (case qqF => k_asm); (case qqN => k_asm); (case qqU => k_upd); (case qqi => assumption); (case qql => exact pop_ne (by assumption) (by assumption)); (case qqz => exact pop_room (by assumption) (by assumption))); (intro h' t' F' N' hI'))
  trivial
set_option maxHeartbeats 8000000 in
theorem draw_spec {D C : Addr} {od oc : Obj} {many : Int} {tm : Tok} (B : Below A₀ base outer h₀) (F : Fr h₀ L s.heap m) (X : (hd.heap_39 w.params).In h₀) (N : News h₀ L s.heap ((D, od) :: (C, oc) :: news)) (T : Top hd.view_39 loose mean mg mb h₀) (hk : cs.kind = .function)
    (hdp : dp + 20 < recursionLimit) (hu : un + 200 < cLine) (K : Deck w D C od oc news) (hm : 0 < many) (hm' : many < 1000)
    (ret : ∀ k t od' oc' h' tk, 0 ≤ k → k < many → Deck w D C od' oc' news → Fr h₀ L h' m → News h₀ L h' ((D, od') :: (C, oc') :: news) → Q (.int k t) { s with heap := h', toks := tk }) :
    wpAny (model PySem.Challenge.rw_nt0003_01.prog w) (ktrTop dp un gd cn cs L a ccd cl outer) (call (.ref 119) [.ref D, .int many tm]) Q E s := by
  revert X; k_fill; intro X
  obtain ⟨⟨vs, ns, k, mx, t, rfl, hi, hn, hdo⟩, hne, oD, oC⟩ := K
  have hlen := IntsAre.length hi
  refine wpAny_call ?_
  k_dflt cell_enter
  k_steps
  · rename_i kF kN _ _
    exact ret _ _ _ _ _ _ (fmod_in _ hm).1 (fmod_in _ hm).2 ⟨⟨_, _, _, _, _, rfl, hi, hn, by assumption⟩, hne, oD, oC⟩ kF (news_tail kN)
  · rename_i kF kN _ _
    exact ret _ _ _ _ _ _ (fmod_in _ hm).1 (fmod_in _ hm).2 ⟨⟨_, _, _, _, _, rfl, by assumption, by rw [List.length_dropLast]; omega, hdo⟩, hne, oD, oC⟩ kF (news_tail kN)
theorem rules5 : True := by
  k_with "call ref" => (k_here; (with_reducible show wpAny _ _ (call (Value.ref 119) [Value.ref _, Value.int _ _]) _ _ _); k_dflt (refine' draw_spec ?qqB ?qqF ?qqX ?qqN ?qqT ?qqk ?qqd ?qqu ?qqK ?qqm ?qqm2 ?_; (case qqB => k_asm); (case qqF => k_asm); (case qqX => k_asm); (case qqN => k_asm); (case qqT => k_asm); (case qqk => first | exact rfl | assumption); (case qqd => ktr_room); (case qqu => ktr_units); (case qqK => assumption); (case qqm => first | assumption | decide); (case qqm2 => first | assumption | decide)); intro k' t' od' oc' h' tk' kl' kh' K' F' N')
  trivial
set_option maxHeartbeats 8000000 in
theorem pick_list {D C l : Addr} {od oc : Obj} {vals : List Value} {n : Nat} (B : Below A₀ base outer h₀) (F : Fr h₀ L s.heap m) (X : (hd.heap_39 w.params).In h₀) (N : News h₀ L s.heap ((D, od) :: (C, oc) :: news)) (T : Top hd.view_39 loose mean mg mb h₀) (hk : cs.kind = .function)
    (hdp : dp + 30 < recursionLimit) (hu : un + 300 < cLine) (K : Deck w D C od oc news) (hl : (l, listOf vals.toArray n) ∈ news) (hm : 0 < vals.length) (hm' : vals.length < 1000) (hb : allBytes vals = true)
    (ret : ∀ b t od' oc' h' tk, b ∈ menu vals → Deck w D C od' oc' news → Fr h₀ L h' m → News h₀ L h' ((D, od') :: (C, oc') :: news) → Q (.bytes b t) { s with heap := h', toks := tk }) :
    wpAny (model PySem.Challenge.rw_nt0003_01.prog w) (ktrTop dp un gd cn cs L a ccd cl outer) (call (.ref 126) [.ref D, .ref l]) Q E s := by
  revert X; k_fill; intro X
  refine wpAny_call ?_
  k_dflt cell_enter
  k_steps
  refine len_list (News.isList (n := n) (by k_asm) (List.mem_cons_of_mem _ (List.mem_cons_of_mem _ hl))) (by simp; omega) ?_
  have hm1 : (0 : Int) < (vals.toArray.size : Nat) := by simp; omega
  have hm2 : ((vals.toArray.size : Nat) : Int) < 1000 := by simp; omega
  k_steps
  have hlt : k'.toNat < vals.length := by simp at kh'; omega
  refine item_listL (News.isList (n := n) N' (List.mem_cons_of_mem _ (List.mem_cons_of_mem _ hl))) kl' (by simp at kh'; omega) (List.getElem?_eq_getElem hlt) ?_
  k_steps
  rename_i kF kN _ _
  obtain ⟨b, t, e, hbm⟩ := menu_get hb (List.getElem_mem hlt)
  rw [e]
  exact ret b t _ _ _ _ hbm K' kF kN
set_option maxHeartbeats 8000000 in
theorem pick_tup {D C l : Addr} {od oc : Obj} {vals : List Value} (B : Below A₀ base outer h₀) (F : Fr h₀ L s.heap m) (X : (hd.heap_39 w.params).In h₀) (N : News h₀ L s.heap ((D, od) :: (C, oc) :: news)) (T : Top hd.view_39 loose mean mg mb h₀) (hk : cs.kind = .function)
    (hdp : dp + 30 < recursionLimit) (hu : un + 300 < cLine) (K : Deck w D C od oc news) (hl : ∀ h, (hd.heap_39 w.params).In h → IsTup h l vals.toArray) (hm : 0 < vals.length) (hm' : vals.length < 1000) (hb : allBytes vals = true)
    (ret : ∀ b t od' oc' h' tk, b ∈ menu vals → Deck w D C od' oc' news → Fr h₀ L h' m → News h₀ L h' ((D, od') :: (C, oc') :: news) → Q (.bytes b t) { s with heap := h', toks := tk }) :
    wpAny (model PySem.Challenge.rw_nt0003_01.prog w) (ktrTop dp un gd cn cs L a ccd cl outer) (call (.ref 126) [.ref D, .ref l]) Q E s := by
  revert X; k_fill; intro X
  refine wpAny_call ?_
  k_dflt cell_enter
  k_steps
  refine PyProof.Rows.len_tuple (hl _ (by k_in)) (by simp; omega) ?_
  have hm1 : (0 : Int) < (vals.toArray.size : Nat) := by simp; omega
  have hm2 : ((vals.toArray.size : Nat) : Int) < 1000 := by simp; omega
  k_steps
  have hlt : k'.toNat < vals.length := by simp at kh'; omega
  refine item_tupleT (hl _ (by k_in)) (by omega) (by simp at kh'; omega) (j := k'.toNat) (by simp at kh'; unfold seqIndex?; simp; omega) (List.getElem?_eq_getElem hlt) ?_
  k_steps
  rename_i kF kN _ _
  obtain ⟨b, t, e, hbm⟩ := menu_get hb (List.getElem_mem hlt)
  rw [e]
  exact ret b t _ _ _ _ hbm K' kF kN
end
end Mine
namespace Mine
theorem rules8 : True := by
  w_top off
  k_with_none
  k_with "execs cons" => (k_here; (try k_gentoks); (with_reducible refine execs_hide ?_); intro «Q✝» «k✝»; try dsimp only)
  trivial
theorem rot {h₀ h : Heap} {L D C l : Addr} {od oc o : Obj} {news : List (Addr × Obj)} (N : News h₀ L h ((l, o) :: (D, od) :: (C, oc) :: news)) : News h₀ L h ((D, od) :: (C, oc) :: (l, o) :: news) := fun p hp => N p (by
  simp only [List.mem_cons] at hp ⊢
  rcases hp with h | h | h | h
  · exact .inr (.inl h)
  · exact .inr (.inr (.inl h))
  · exact .inl h
  · exact .inr (.inr (.inr h)))
theorem Deck.push {w : World} {D C l : Addr} {od oc o : Obj} {news : List (Addr × Obj)} {R : Prop} (K : Deck w D C od oc news) (hl : @LT.lt Nat _ D l ∧ @LT.lt Nat _ C l ∧ R) : Deck w D C od oc ((l, o) :: news) :=
  have h1 := hl.1
  have h2 := hl.2.1
  ⟨K.ex, K.ne, fun p hp => by
    rcases List.mem_cons.mp hp with rfl | hp
    · exact fun e => Nat.lt_irrefl _ (e ▸ h1)
    · exact K.offD p hp, fun p hp => by
    rcases List.mem_cons.mp hp with rfl | hp
    · exact fun e => Nat.lt_irrefl _ (e ▸ h2)
    · exact K.offC p hp⟩
theorem Deck.of {w : World} {D C : Addr} {od oc : Obj} {n1 n2 : List (Addr × Obj)} (K : Deck w D C od oc n1) (h : ∀ p ∈ n2, ∃ q ∈ n1, q.1 = p.1) : Deck w D C od oc n2 :=
  ⟨K.ex, K.ne, fun p hp => by obtain ⟨q, hq, e⟩ := h p hp; rw [← e]; exact K.offD q hq, fun p hp => by obtain ⟨q, hq, e⟩ := h p hp; rw [← e]; exact K.offC q hq⟩
theorem Deck.upd1 {w : World} {D C x : Addr} {od oc o o' : Obj} {r : List (Addr × Obj)} (K : Deck w D C od oc ((x, o) :: r)) : Deck w D C od oc ((x, o') :: r) := K.of fun p hp => by
  rcases List.mem_cons.mp hp with rfl | hp
  · exact ⟨_, List.mem_cons_self .., rfl⟩
  · exact ⟨_, List.mem_cons_of_mem _ hp, rfl⟩
theorem Deck.drop1 {w : World} {D C x : Addr} {od oc o : Obj} {r : List (Addr × Obj)} (K : Deck w D C od oc ((x, o) :: r)) : Deck w D C od oc r := K.of fun p hp => ⟨_, List.mem_cons_of_mem _ hp, rfl⟩
theorem Deck.cons {w : World} {D C x : Addr} {od oc o o' : Obj} {r r' : List (Addr × Obj)} (K : Deck w D C od oc ((x, o) :: r)) (f : Deck w D C od oc r → Deck w D C od oc r') : Deck w D C od oc ((x, o') :: r') :=
  ⟨K.ex, K.ne, fun p hp => by
    rcases List.mem_cons.mp hp with rfl | hp
    · exact K.offD (x, o) (List.mem_cons_self ..)
    · exact (f K.drop1).offD p hp, fun p hp => by
    rcases List.mem_cons.mp hp with rfl | hp
    · exact K.offC (x, o) (List.mem_cons_self ..)
    · exact (f K.drop1).offC p hp⟩
theorem Deck.upd2 {w : World} {D C x y : Addr} {od oc o o' q q' : Obj} {r : List (Addr × Obj)} (K : Deck w D C od oc ((y, q) :: (x, o) :: r)) : Deck w D C od oc ((y, q') :: (x, o') :: r) := K.cons fun K => K.upd1
theorem Deck.updd {w : World} {D C x y : Addr} {od oc o o' q : Obj} {r : List (Addr × Obj)} (K : Deck w D C od oc ((y, q) :: (x, o) :: r)) : Deck w D C od oc ((x, o') :: r) := K.drop1.upd1
theorem unr_end {h₀ h' : Heap} {L D C I l : Addr} {od oc it ol : Obj} {news : List (Addr × Obj)} {s₁ : Shared} {tk : Nat} {m' : Str → Option Value} {rest : (Str → Option Value) → List (Addr × Obj) → Prop}
    (F : Fr h₀ L h' m') (N : News h₀ L h' ((D, od) :: (C, oc) :: (I, it) :: (l, ol) :: news)) (l1 : @LT.lt Nat _ D I ∧ @LT.lt Nat _ C I ∧ @LT.lt Nat _ l I ∧ AllLt I news) (r : rest m' ((D, od) :: (C, oc) :: (l, ol) :: news)) :
    UnrEnd h₀ L s₁ I it rest { s₁ with heap := h', toks := tk } := by
  refine UnrEnd.intro F N _ (fun p hp => ?_) (fun p hp => ?_) r
  · simp only [List.mem_cons] at hp ⊢
    rcases hp with h | h | h | h | h
    · exact .inr (.inr (.inl h))
    · exact .inl h
    · exact .inr (.inl h)
    · exact .inr (.inr (.inr (.inl h)))
    · exact .inr (.inr (.inr (.inr h)))
  · obtain ⟨a1, a2, a3, a4⟩ := l1
    simp only [List.mem_cons] at hp
    rcases hp with rfl | rfl | rfl | hp
    · exact Nat.ne_of_lt a1
    · exact Nat.ne_of_lt a2
    · exact Nat.ne_of_lt a3
    · have key : ∀ (l : List (Addr × Obj)), AllLt I l → ∀ p ∈ l, p.1 ≠ I := by
        intro l
        induction l with
        | nil => intro _ p hp; exact nomatch hp
        | cons q l ih =>
          intro h p hp
          rcases List.mem_cons.mp hp with rfl | hp
          · exact Nat.ne_of_lt h.1
          · exact ih h.2 p hp
      exact key news a4 p hp
section
variable {prog : Program} {w : World} {A : Around} {E : Value → Shared → Prop} {s : Shared} {b c : Array UInt8} {t u : Tok} {Q : Value → Shared → Prop}
theorem add_nohash (hb : noHash b = true) (hc : noHash c = true) (hsz : b.size + c.size ≤ 1000) (h : ∀ d t' k, noHash d = true → d.size = b.size + c.size → Q (.bytes d t') { s with toks := k }) :
    wpAny (model prog w) A (binaryOp .Add (.bytes b t) (.bytes c u)) Q E s :=
  KBy.add_bytes (by omega) fun t' k => h _ t' k (noHash_append hb hc) Array.size_append
theorem join_nohash {l : Addr} {xs : Array Value} {bs : List (Array UInt8)} (hl : s.heap.IsList l xs) (hb : BB.BAre xs.toList bs) (hc : noHash c = true) (hcz : c.size ≤ 16) (hn : bs.length ≤ 3) (hz : ∀ b ∈ bs, b.size ≤ 16 ∧ noHash b = true)
    (h : ∀ d t' k, noHash d = true → d.size ≤ 96 → Q (.bytes d t') { s with toks := k }) : wpAny (model prog w) A (call (.builtin "bytes.join") [.bytes c t, .ref l]) Q E s := by
  refine BB.join (vs := xs.toList) (bs := bs) (z := 16) (n := 3) (by simpa using hl) hb hcz (fun p hp => (hz p hp).1) hn (by decide) fun t' k => ?_
  refine h _ t' k (noHash_joinB hc _ fun b hb => (hz b hb).2) ?_
  have := BB.joinB_size c bs 16 hcz fun p hp => (hz p hp).1
  omega
theorem menu_size {v1 : List Value} {b1 : Array UInt8} (h1 : b1 ∈ menu v1) (h : ((menu v1).all fun x => decide (x.size ≤ 60)) = true) : b1.size ≤ 60 := of_decide_eq_true (List.all_eq_true.mp h b1 h1)
theorem menu_good1 {v1 : List Value} {b1 : Array UInt8} (h1 : b1 ∈ menu v1) (h : (menu v1).all goodTail = true) : goodTail b1 = true := List.all_eq_true.mp h b1 h1
theorem menu_good {v1 v2 : List Value} {b1 b2 : Array UInt8} (h1 : b1 ∈ menu v1) (h2 : b2 ∈ menu v2) (h : ((menu v1).all fun x => (menu v2).all fun y => goodTail (x ++ y)) = true) : goodTail (b1 ++ b2) = true :=
  List.all_eq_true.mp (List.all_eq_true.mp h b1 h1) b2 h2
theorem news_keep {h₀ h : Heap} {L : Addr} {p q : Addr × Obj} {r r' : List (Addr × Obj)} (N : News h₀ L h (p :: q :: r)) (hs : ∀ p ∈ r', p ∈ r) : News h₀ L h (p :: q :: r') := fun x hx => N x (by
  rcases List.mem_cons.mp hx with rfl | hx
  · exact List.mem_cons_self ..
  · rcases List.mem_cons.mp hx with rfl | hx
    · exact List.mem_cons_of_mem _ (List.mem_cons_self ..)
    · exact List.mem_cons_of_mem _ (List.mem_cons_of_mem _ (hs x hx)))
theorem all_nil {P : Array UInt8 → Prop} : ∀ b ∈ ([] : List (Array UInt8)), P b := fun _ h => nomatch h
theorem all_cons {P : Array UInt8 → Prop} {x : Array UInt8} {r : List (Array UInt8)} (h1 : P x) (h2 : ∀ b ∈ r, P b) : ∀ b ∈ x :: r, P b := fun b hb => by
  rcases List.mem_cons.mp hb with rfl | hb
  · exact h1
  · exact h2 b hb
end
section
variable {w : World} {loose : List Str} {mean : ExcName → Option Value} {mg mb : Str → Option Value} {dp un : Nat} {gd : Option (List Code)} {cn : Str} {cs : Scope} {a : Addr} {ccd : Value} {cl : List (Str × Addr)} {outer : List Env} {A₀ : Around} {base h₀ : Heap} {L : Addr} {m : Str → Option Value} {s : Shared} {Q E : Value → Shared → Prop} {news : List (Addr × Obj)}
noncomputable def tupV (w : World) (a : Addr) : List Value := match (hd.heap_39 w.params).lookup a with
  | some o => match o.data with
    | .seq xs _ => xs.toList
    | _ => []
  | none => []
theorem pads_tup {h : Heap} (X : (hd.heap_39 w.params).In h) : IsTup h 107 (tupV w 107).toArray := tupK (n := 0) (dd := none) (sl := #[]) X (by with_unfolding_all rfl)
theorem words_tup {h : Heap} (X : (hd.heap_39 w.params).In h) : IsTup h 106 (tupV w 106).toArray := tupK (n := 0) (dd := none) (sl := #[]) X (by with_unfolding_all rfl)
theorem pads_bytes : allBytes (tupV w 107) = true ∧ (tupV w 107).length = 5 ∧ (menu (tupV w 107)).all (fun b => noHash b && decide (b.size ≤ 2)) = true := by with_unfolding_all exact ⟨rfl, rfl, rfl⟩
theorem words_bytes : allBytes (tupV w 106) = true ∧ (tupV w 106).length = 8 ∧ (menu (tupV w 106)).all (fun b => noHash b && decide (b.size ≤ 12)) = true := by with_unfolding_all exact ⟨rfl, rfl, rfl⟩
theorem pad_le {w : World} {b : Array UInt8} (h : b ∈ menu (tupV w 107)) : b.size ≤ 2 ∧ noHash b = true := by
  have := List.all_eq_true.mp pads_bytes.2.2 b h
  simp only [Bool.and_eq_true, decide_eq_true_eq] at this
  exact ⟨this.2, this.1⟩
theorem word_le {w : World} {b : Array UInt8} (h : b ∈ menu (tupV w 106)) : b.size ≤ 12 ∧ noHash b = true := by
  have := List.all_eq_true.mp words_bytes.2.2 b h
  simp only [Bool.and_eq_true, decide_eq_true_eq] at this
  exact ⟨this.2, this.1⟩
theorem rules7 : True := by
  k_with "getMethod bytes" => (k_here; first | (with_reducible refine BB.find_method ?_) | (with_reducible refine BB.strip_method ?_) | (with_reducible refine BB.split_method ?_) | (with_reducible refine BB.join_method ?_) | (with_reducible refine BB.starts_method ?_))
  k_with "UnrEnd" => (k_here; (rename News _ _ _ _ => «nX✝»); refine unr_end (by assumption) «nX✝» (by assumption) ?_)
  k_with "binaryOp Add bytes bytes" => (k_here; (with_reducible show wpAny _ _ (binaryOp Operator.Add (Value.bytes _ _) (Value.bytes _ _)) _ _ _); refine KBy.add_bytes (by first | omega | ((simp only [Array.size_append]); omega)) ?_; intro _ _)
  k_with "call ref" => (k_here; (with_reducible show wpAny _ _ (call (Value.ref 119) [Value.ref _, Value.int _ _]) _ _ _); k_dflt (refine' draw_spec ?qqB ?qqF ?qqX ?qqN ?qqT ?qqk ?qqd ?qqu ?qqK ?qqm ?qqm2 ?_; (case qqB => k_asm); (case qqF => k_asm); (case qqX => k_asm); (case qqN => first | k_asm | exact rot (by assumption)); (case qqT => k_asm); (case qqk => first | exact rfl | assumption); (case qqd => ktr_room); (case qqu => ktr_units); (case qqK => first | assumption | exact Deck.push (by assumption) (by assumption) | exact Deck.upd1 (by assumption) | exact Deck.upd2 (by assumption) | exact Deck.updd (by assumption) | exact Deck.push (Deck.updd (by assumption)) (by assumption) | exact Deck.push (Deck.upd1 (by assumption)) (by assumption)); (case qqm => first | assumption | decide); (case qqm2 => first | assumption | decide)); intro «k'✝» «t'✝» «od'✝» «oc'✝» «h'✝» «tk'✝» «kl'✝» «kh'✝» «K'✝» «F'✝» «N'✝»)
  k_with "call ref" => (k_here; (with_reducible show wpAny _ _ (call (Value.ref 126) [Value.ref _, Value.ref _]) _ _ _); k_dflt (refine' pick_list ?qqB ?qqF ?qqX ?qqN ?qqT ?qqk ?qqd ?qqu ?qqK ?qql ?qqm ?qqm2 ?qqb ?_; (case qqB => k_asm); (case qqF => k_asm); (case qqX => k_asm); (case qqT => k_asm); (case qqk => first | exact rfl | assumption); (case qqd => ktr_room); (case qqu => ktr_units); (case qqN => ((rename News _ _ _ _ => «nX✝»); exact rot «nX✝»)); (case qqK => first | exact Deck.push (by assumption) (by assumption) | exact Deck.push (Deck.updd (by assumption)) (by assumption) | exact Deck.push (Deck.upd1 (by assumption)) (by assumption)); (case qql => exact List.mem_cons_self ..); (case qqm => simp); (case qqm2 => simp); (case qqb => rfl)); intro «b'✝» «t'✝» «od'✝» «oc'✝» «h'✝» «tk'✝» «hb'✝» «K'✝» «F'✝» «N'✝»; have «hz'✝» := menu_size «hb'✝» rfl)
  k_with "call ref" => (k_here; (with_reducible show wpAny _ _ (call (Value.ref 126) [Value.ref _, Value.ref 107]) _ _ _); k_dflt (refine' pick_tup ?qqB ?qqF ?qqX ?qqN ?qqT ?qqk ?qqd ?qqu ?qqK (fun h X => pads_tup X) ?qqm ?qqm2 pads_bytes.1 ?_; (case qqB => k_asm); (case qqF => k_asm); (case qqX => k_asm); (case qqN => first | k_asm | exact rot (by assumption)); (case qqT => k_asm); (case qqk => first | exact rfl | assumption); (case qqd => ktr_room); (case qqu => ktr_units); (case qqK => first | assumption | exact Deck.push (by assumption) (by assumption) | exact Deck.upd1 (by assumption) | exact Deck.upd2 (by assumption) | exact Deck.updd (by assumption) | exact Deck.push (Deck.updd (by assumption)) (by assumption) | exact Deck.push (Deck.upd1 (by assumption)) (by assumption)); (case qqm => rw [pads_bytes.2.1]; decide); (case qqm2 => rw [pads_bytes.2.1]; decide)); intro «b'✝» «t'✝» «od'✝» «oc'✝» «h'✝» «tk'✝» «hb'✝» «K'✝» «F'✝» «N'✝»; have «hz'✝» := (pad_le «hb'✝»).1; have «hn'✝» := (pad_le «hb'✝»).2; clear «hb'✝»)
  k_with "call ref" => (k_here; (with_reducible show wpAny _ _ (call (Value.ref 126) [Value.ref _, Value.ref 106]) _ _ _); k_dflt (refine' pick_tup ?qqB ?qqF ?qqX ?qqN ?qqT ?qqk ?qqd ?qqu ?qqK (fun h X => words_tup X) ?qqm ?qqm2 words_bytes.1 ?_; (case qqB => k_asm); (case qqF => k_asm); (case qqX => k_asm); (case qqN => first | k_asm | exact rot (by assumption)); (case qqT => k_asm); (case qqk => first | exact rfl | assumption); (case qqd => ktr_room); (case qqu => ktr_units); (case qqK => first | assumption | exact Deck.push (by assumption) (by assumption) | exact Deck.upd1 (by assumption) | exact Deck.upd2 (by assumption) | exact Deck.updd (by assumption) | exact Deck.push (Deck.updd (by assumption)) (by assumption) | exact Deck.push (Deck.upd1 (by assumption)) (by assumption)); (case qqm => rw [words_bytes.2.1]; decide); (case qqm2 => rw [words_bytes.2.1]; decide)); intro «b'✝» «t'✝» «od'✝» «oc'✝» «h'✝» «tk'✝» «hb'✝» «K'✝» «F'✝» «N'✝»; have «hz'✝» := (word_le «hb'✝»).1; have «hn'✝» := (word_le «hb'✝»).2; clear «hb'✝»)
  k_with "binaryOp Add bytes bytes" => (k_here; (with_reducible show wpAny _ _ (binaryOp Operator.Add (Value.bytes _ _) (Value.bytes _ _)) _ _ _); refine add_nohash (by assumption) (by assumption) (by omega) ?_; intro «d'✝» «t'✝» «k'✝» «hn'✝» «hz'✝»)
  k_with "call builtin:bytes.join" => (k_here; (rename News _ _ _ _ => «nX✝»); (refine' join_nohash (News.isList «nX✝» ?qqjm) ?qqja ?qqjc ?qqjz ?qqjn ?qqjh ?_); (case qqjm => k_mem); (case qqja => first | exact BB.BAre.nil | (with_unfolding_all exact BB.BAre.cons _ _ BB.BAre.nil) | (with_unfolding_all exact BB.BAre.cons _ _ (BB.BAre.cons _ _ BB.BAre.nil)) | (with_unfolding_all exact BB.BAre.cons _ _ (BB.BAre.cons _ _ (BB.BAre.cons _ _ BB.BAre.nil)))); (case qqjc => rfl); (case qqjz => decide); (case qqjn => simp); (case qqjh => (repeat (first | exact all_nil | refine all_cons ⟨by omega, by assumption⟩ ?_))); intro «d'✝» «t'✝» «k'✝» «hn'✝» «hz'✝»)
  trivial
set_option maxHeartbeats 8000000 in
theorem line_spec {D C : Addr} {od oc : Obj} (B : Below A₀ base outer h₀) (F : Fr h₀ L s.heap m) (X : (hd.heap_39 w.params).In h₀) (N : News h₀ L s.heap ((D, od) :: (C, oc) :: news)) (T : Top hd.view_39 loose mean mg mb h₀) (hk : cs.kind = .function)
    (hdp : dp + 40 < recursionLimit) (hu : un + 400 < cLine) (K : Deck w D C od oc news) 
    (ret : ∀ b t od' oc' h' tk, Good b → Deck w D C od' oc' news → Fr h₀ L h' m → News h₀ L h' ((D, od') :: (C, oc') :: news) → Q (.bytes b t) { s with heap := h', toks := tk }) :
    wpAny (model PySem.Challenge.rw_nt0003_01.prog w) (ktrTop dp un gd cn cs L a ccd cl outer) (call (.ref 133) [.ref D]) Q E s := by
  revert X; k_fill; intro X
  refine wpAny_call ?_
  k_dflt cell_enter
  k_steps
  all_goals first
    | (rename_i kF kN _ _; exact ret _ _ _ _ _ _ (Good.tail (menu_good1 (by assumption) rfl)) (Deck.drop1 (by assumption)) kF (news_keep kN (by intro p hp; repeat (first | exact hp | refine List.mem_cons_of_mem _ ?_))))
    | (rename_i kF kN _ _; (rw [Array.append_assoc]); exact ret _ _ _ _ _ _ (Good.of (by assumption) (by omega) (menu_good (by assumption) (by assumption) rfl)) (Deck.drop1 (Deck.drop1 (Deck.drop1 (by assumption)))) kF (news_keep kN (by intro p hp; repeat (first | exact hp | refine List.mem_cons_of_mem _ ?_))))
end
end Mine
namespace Mine
theorem rules9 : True := by
  w_top off
  k_with_none
  k_with "execs cons" => (k_here; (try k_gentoks); (with_reducible refine execs_hide ?_); intro «Q✝» «k✝»; try dsimp only)
  trivial
section
variable {prog : Program} {w : World} {A : Around} {h₀ : Heap} {L : Addr} {m : Str → Option Value} {env : Env} {elt : Expr} {x : Str} {scope : Scope} {cl : List (Str × Addr)} {s : Shared} {S : List (Addr × Obj) → Prop} {P : Nat → Value → Prop} {Fin : List Value → List (Addr × Obj) → Prop}
theorem compRest_ind (Inv : Nat → List Value → List (Addr × Obj) → Prop) {n : Nat}
    (turn : ∀ i ys news v I oI C oC D m₂ h tk (E' : Value → Shared → Prop), i < n → Inv i ys news → P i v → LCg.NsObj oC m₂ → m₂ x = some v → Fr h₀ L h m → News h₀ L h ((I, oI) :: (C, oC) :: (D, LCg.lst ys) :: news) → LCg.Off3 I C D news → ((@Ne Nat I C) ∧ (@Ne Nat I D) ∧ (@Ne Nat C D)) →
      wpAny (model prog w) A (eval elt (compEnvC scope cl C env)) (LCg.CompEnd h₀ L m { s with heap := h, toks := tk } I oI C oC D (LCg.lst ys) S (fun y news' => Inv (i + 1) (ys ++ [y]) news')) E' { s with heap := h, toks := tk })
    (fin : ∀ ys news, Inv n ys news → Fin ys news) : ∀ k i ys news, i + k = n → Inv i ys news → LCg.CompRest prog w A h₀ L m env elt x scope cl s S P Fin k i ys news
  | 0, i, ys, news, e, hI => LCg.CompRest.zero (fin ys news (by rw [← e]; exact hI))
  | k + 1, i, ys, news, e, hI => by
    refine LCg.CompRest.succ fun v I oI C oC D m₂ h tk E' hP hN hx F N off ne => ?_
    refine wpAny_mono (turn i ys news v I oI C oC D m₂ h tk E' (by omega) hI hP hN hx F N off ne) (fun y s₂ hE => ?_) fun _ _ e => e
    obtain ⟨h', tk', news', e', F', N', off', hS, hr⟩ := hE
    exact ⟨h', tk', news', e', F', N', off', hS, compRest_ind Inv turn fin k (i + 1) _ _ (by omega) hr⟩
end
theorem lst_eq (ys : List Value) : LCg.lst ys = listOf ys.toArray ys.length := rfl
theorem fr_eq {h₀ h : Heap} {L : Addr} {m m' : Str → Option Value} (F : Fr h₀ L h m) (e : ∀ z, m z = m' z) : Fr h₀ L h m' := funext e ▸ F
theorem fr_turn1 {h₀ h : Heap} {L : Addr} {m₁ m₀ : Str → Option Value} {x y : Str} {v u : Value} {st : List Str} (F : Fr h₀ L h (fun z => if z = x then some v else m₁ z)) (h1 : m₁ y = some u) (h2 : ∀ z, z ≠ y → st.contains z = false → m₁ z = m₀ z) :
    Fr h₀ L h (fun z => if z = x then some v else if z = y then some u else if st.contains z then m₁ z else m₀ z) := fr_eq F fun z => by
  by_cases a : z = x
  · rw [if_pos a, if_pos a]
  · rw [if_neg a, if_neg a]
    by_cases b : z = y
    · rw [if_pos b, b, h1]
    · rw [if_neg b]
      cases c : st.contains z with
      | true => rfl
      | false => exact h2 z b c
theorem fr_done1 {h₀ h : Heap} {L : Addr} {m₁ m₀ : Str → Option Value} {y : Str} {u : Value} {st : List Str} (F : Fr h₀ L h m₁) (h1 : m₁ y = some u) (h2 : ∀ z, z ≠ y → st.contains z = false → m₁ z = m₀ z) :
    Fr h₀ L h (fun z => if z = y then some u else if st.contains z then m₁ z else m₀ z) := fr_eq F fun z => by
  by_cases b : z = y
  · rw [if_pos b, b, h1]
  · rw [if_neg b]
    cases c : st.contains z with
    | true => rfl
    | false => exact h2 z b c
end Mine
namespace Mine
theorem rules11 : True := by
  w_top off
  k_with_none
  k_with "execs cons" => (k_here; (try k_gentoks); (with_reducible refine execs_hide ?_); intro «Q✝» «k✝»; try dsimp only)
  trivial
def codesB : List (Array UInt8) := [#[48, 48, 52, 49], #[48, 48, 52, 97], #[49, 48, 70, 70, 70, 70], #[48, 48, 48, 52, 49], #[49, 49, 48, 48, 48, 48], #[52, 49], #[48, 48, 48, 48, 48, 52, 49], #[48, 48, 52, 103], #[], #[48, 48, 32, 52, 49]]
def farsB : List (Array UInt8) := [#[48, 48, 52, 49], #[48, 48, 53, 65], #[48, 48, 51, 48], #[102, 70, 102, 70, 102], #[49, 48, 70, 70, 70, 70], #[], #[46, 48, 48, 53, 65], #[48, 48, 53, 65, 46, 46, 48, 48, 54, 48], #[53, 65]]
def IsField (b : Array UInt8) : Prop := b ∈ codesB ∨ ∃ c ∈ codesB, ∃ f ∈ farsB, b = c ++ #[46, 46] ++ f
section
variable {w : World} {loose : List Str} {mean : ExcName → Option Value} {mg mb : Str → Option Value} {dp un : Nat} {gd : Option (List Code)} {cn : Str} {cs : Scope} {a : Addr} {ccd : Value} {cl : List (Str × Addr)} {outer : List Env} {A₀ : Around} {base h₀ : Heap} {L : Addr} {m : Str → Option Value} {s : Shared} {Q E : Value → Shared → Prop} {news : List (Addr × Obj)}
theorem rules10 : True := by
  k_with "getMethod bytes" => (k_here; first | (with_reducible refine BB.find_method ?_) | (with_reducible refine BB.strip_method ?_) | (with_reducible refine BB.split_method ?_) | (with_reducible refine BB.join_method ?_) | (with_reducible refine BB.starts_method ?_))
  k_with "UnrEnd" => (k_here; (rename News _ _ _ _ => «nX✝»); refine unr_end (by assumption) «nX✝» (by assumption) ?_)
  k_with "binaryOp Add bytes bytes" => (k_here; (with_reducible show wpAny _ _ (binaryOp Operator.Add (Value.bytes _ _) (Value.bytes _ _)) _ _ _); refine KBy.add_bytes (by first | omega | ((simp only [Array.size_append, List.size_toArray, List.length_cons, List.length_nil]); omega)) ?_; intro _ _)
  k_with "call ref" => (k_here; (with_reducible show wpAny _ _ (call (Value.ref 119) [Value.ref _, Value.int _ _]) _ _ _); k_dflt (refine' draw_spec ?qqB ?qqF ?qqX ?qqN ?qqT ?qqk ?qqd ?qqu ?qqK ?qqm ?qqm2 ?_; (case qqB => k_asm); (case qqF => k_asm); (case qqX => k_asm); (case qqN => first | k_asm | exact rot (by assumption)); (case qqT => k_asm); (case qqk => first | exact rfl | assumption); (case qqd => ktr_room); (case qqu => ktr_units); (case qqK => first | assumption | exact Deck.push (by assumption) (by assumption) | exact Deck.upd1 (by assumption) | exact Deck.upd2 (by assumption) | exact Deck.updd (by assumption) | exact Deck.push (Deck.updd (by assumption)) (by assumption) | exact Deck.push (Deck.upd1 (by assumption)) (by assumption)); (case qqm => first | assumption | decide); (case qqm2 => first | assumption | decide)); intro «k'✝» «t'✝» «od'✝» «oc'✝» «h'✝» «tk'✝» «kl'✝» «kh'✝» «K'✝» «F'✝» «N'✝»)
  k_with "call ref" => (k_here; (with_reducible show wpAny _ _ (call (Value.ref 126) [Value.ref _, Value.ref _]) _ _ _); k_dflt (refine' pick_list ?qqB ?qqF ?qqX ?qqN ?qqT ?qqk ?qqd ?qqu ?qqK ?qql ?qqm ?qqm2 ?qqb ?_; (case qqB => k_asm); (case qqF => k_asm); (case qqX => k_asm); (case qqT => k_asm); (case qqk => first | exact rfl | assumption); (case qqd => ktr_room); (case qqu => ktr_units); (case qqN => ((rename News _ _ _ _ => «nX✝»); exact rot «nX✝»)); (case qqK => first | exact Deck.push (by assumption) (by assumption) | exact Deck.push (Deck.updd (by assumption)) (by assumption) | exact Deck.push (Deck.upd1 (by assumption)) (by assumption)); (case qql => exact List.mem_cons_self ..); (case qqm => simp); (case qqm2 => simp); (case qqb => rfl)); intro «b'✝» «t'✝» «od'✝» «oc'✝» «h'✝» «tk'✝» «hb'✝» «K'✝» «F'✝» «N'✝»; have «hz'✝» := menu_size «hb'✝» rfl)
  k_with "call ref" => (k_here; (with_reducible show wpAny _ _ (call (Value.ref 126) [Value.ref _, Value.ref 107]) _ _ _); k_dflt (refine' pick_tup ?qqB ?qqF ?qqX ?qqN ?qqT ?qqk ?qqd ?qqu ?qqK (fun h X => pads_tup X) ?qqm ?qqm2 pads_bytes.1 ?_; (case qqB => k_asm); (case qqF => k_asm); (case qqX => k_asm); (case qqN => first | k_asm | exact rot (by assumption)); (case qqT => k_asm); (case qqk => first | exact rfl | assumption); (case qqd => ktr_room); (case qqu => ktr_units); (case qqK => first | assumption | exact Deck.push (by assumption) (by assumption) | exact Deck.upd1 (by assumption) | exact Deck.upd2 (by assumption) | exact Deck.updd (by assumption) | exact Deck.push (Deck.updd (by assumption)) (by assumption) | exact Deck.push (Deck.upd1 (by assumption)) (by assumption)); (case qqm => rw [pads_bytes.2.1]; decide); (case qqm2 => rw [pads_bytes.2.1]; decide)); intro «b'✝» «t'✝» «od'✝» «oc'✝» «h'✝» «tk'✝» «hb'✝» «K'✝» «F'✝» «N'✝»; have «hz'✝» := (pad_le «hb'✝»).1; have «hn'✝» := (pad_le «hb'✝»).2; clear «hb'✝»)
  k_with "call ref" => (k_here; (with_reducible show wpAny _ _ (call (Value.ref 126) [Value.ref _, Value.ref 106]) _ _ _); k_dflt (refine' pick_tup ?qqB ?qqF ?qqX ?qqN ?qqT ?qqk ?qqd ?qqu ?qqK (fun h X => words_tup X) ?qqm ?qqm2 words_bytes.1 ?_; (case qqB => k_asm); (case qqF => k_asm); (case qqX => k_asm); (case qqN => first | k_asm | exact rot (by assumption)); (case qqT => k_asm); (case qqk => first | exact rfl | assumption); (case qqd => ktr_room); (case qqu => ktr_units); (case qqK => first | assumption | exact Deck.push (by assumption) (by assumption) | exact Deck.upd1 (by assumption) | exact Deck.upd2 (by assumption) | exact Deck.updd (by assumption) | exact Deck.push (Deck.updd (by assumption)) (by assumption) | exact Deck.push (Deck.upd1 (by assumption)) (by assumption)); (case qqm => rw [words_bytes.2.1]; decide); (case qqm2 => rw [words_bytes.2.1]; decide)); intro «b'✝» «t'✝» «od'✝» «oc'✝» «h'✝» «tk'✝» «hb'✝» «K'✝» «F'✝» «N'✝»; have «hz'✝» := (word_le «hb'✝»).1; have «hn'✝» := (word_le «hb'✝»).2; clear «hb'✝»)
  k_with "binaryOp Add bytes bytes" => (k_here; (with_reducible show wpAny _ _ (binaryOp Operator.Add (Value.bytes _ _) (Value.bytes _ _)) _ _ _); refine add_nohash (by assumption) (by assumption) (by omega) ?_; intro «d'✝» «t'✝» «k'✝» «hn'✝» «hz'✝»)
  k_with "call builtin:bytes.join" => (k_here; (rename News _ _ _ _ => «nX✝»); (refine' join_nohash (News.isList «nX✝» ?qqjm) ?qqja ?qqjc ?qqjz ?qqjn ?qqjh ?_); (case qqjm => k_mem); (case qqja => first | exact BB.BAre.nil | (with_unfolding_all exact BB.BAre.cons _ _ BB.BAre.nil) | (with_unfolding_all exact BB.BAre.cons _ _ (BB.BAre.cons _ _ BB.BAre.nil)) | (with_unfolding_all exact BB.BAre.cons _ _ (BB.BAre.cons _ _ (BB.BAre.cons _ _ BB.BAre.nil)))); (case qqjc => rfl); (case qqjz => decide); (case qqjn => simp); (case qqjh => (repeat (first | exact all_nil | refine all_cons ⟨by omega, by assumption⟩ ?_))); intro «d'✝» «t'✝» «k'✝» «hn'✝» «hz'✝»)
  trivial
set_option maxHeartbeats 8000000 in
theorem field_spec {D C : Addr} {od oc : Obj} (B : Below A₀ base outer h₀) (F : Fr h₀ L s.heap m) (X : (hd.heap_39 w.params).In h₀) (N : News h₀ L s.heap ((D, od) :: (C, oc) :: news)) (T : Top hd.view_39 loose mean mg mb h₀) (hk : cs.kind = .function)
    (hdp : dp + 40 < recursionLimit) (hu : un + 400 < cLine) (K : Deck w D C od oc news)
    (ret : ∀ b t od' oc' h' tk, IsField b → Deck w D C od' oc' news → Fr h₀ L h' m → News h₀ L h' ((D, od') :: (C, oc') :: news) → Q (.bytes b t) { s with heap := h', toks := tk }) :
    wpAny (model PySem.Challenge.rw_nt0003_01.prog w) (ktrTop dp un gd cn cs L a ccd cl outer) (call (.ref 169) [.ref D]) Q E s := by
  revert X; k_fill; intro X
  refine wpAny_call ?_
  k_dflt cell_enter
  k_steps
  · rename_i kF kN _ _
    exact ret _ _ _ _ _ _ (.inl (by assumption)) (Deck.drop1 (by assumption)) kF (news_keep kN (by intro p hp; repeat (first | exact hp | refine List.mem_cons_of_mem _ ?_)))
  · rename_i kF kN _ _
    exact ret _ _ _ _ _ _ (.inr ⟨_, by assumption, _, by assumption, rfl⟩) (Deck.drop1 (Deck.drop1 (by assumption))) kF (news_keep kN (by intro p hp; repeat (first | exact hp | refine List.mem_cons_of_mem _ ?_)))
end
end Mine
namespace Mine
theorem rules13 : True := by
  w_top off
  k_with_none
  k_with "execs cons" => (k_here; (try k_gentoks); (with_reducible refine execs_hide ?_); intro «Q✝» «k✝»; try dsimp only)
  trivial
section
variable {w : World} {loose : List Str} {mean : ExcName → Option Value} {mg mb : Str → Option Value} {dp un : Nat} {gd : Option (List Code)} {cn : Str} {cs : Scope} {a : Addr} {ccd : Value} {cl : List (Str × Addr)} {outer : List Env} {A₀ : Around} {base h₀ : Heap} {L : Addr} {m : Str → Option Value} {s : Shared} {Q E : Value → Shared → Prop} {news : List (Addr × Obj)}
theorem rules12 : True := by
  k_with "getMethod bytes" => (k_here; first | (with_reducible refine BB.find_method ?_) | (with_reducible refine BB.strip_method ?_) | (with_reducible refine BB.split_method ?_) | (with_reducible refine BB.join_method ?_) | (with_reducible refine BB.starts_method ?_))
  k_with "UnrEnd" => (k_here; (rename News _ _ _ _ => «nX✝»); refine unr_end (by assumption) «nX✝» (by assumption) ?_)
  k_with "binaryOp Add bytes bytes" => (k_here; (with_reducible show wpAny _ _ (binaryOp Operator.Add (Value.bytes _ _) (Value.bytes _ _)) _ _ _); refine KBy.add_bytes (by first | omega | ((simp only [Array.size_append, List.size_toArray, List.length_cons, List.length_nil]); omega)) ?_; intro _ _)
  k_with "call ref" => (k_here; (with_reducible show wpAny _ _ (call (Value.ref 119) [Value.ref _, Value.int _ _]) _ _ _); k_dflt (refine' draw_spec ?qqB ?qqF ?qqX ?qqN ?qqT ?qqk ?qqd ?qqu ?qqK ?qqm ?qqm2 ?_; (case qqB => k_asm); (case qqF => k_asm); (case qqX => k_asm); (case qqN => first | k_asm | exact rot (by assumption)); (case qqT => k_asm); (case qqk => first | exact rfl | assumption); (case qqd => ktr_room); (case qqu => ktr_units); (case qqK => first | assumption | exact Deck.push (by assumption) (by assumption) | exact Deck.upd1 (by assumption) | exact Deck.upd2 (by assumption) | exact Deck.updd (by assumption) | exact Deck.push (Deck.updd (by assumption)) (by assumption) | exact Deck.push (Deck.upd1 (by assumption)) (by assumption)); (case qqm => first | assumption | decide); (case qqm2 => first | assumption | decide)); intro «k'✝» «t'✝» «od'✝» «oc'✝» «h'✝» «tk'✝» «kl'✝» «kh'✝» «K'✝» «F'✝» «N'✝»)
  k_with "call ref" => (k_here; (with_reducible show wpAny _ _ (call (Value.ref 126) [Value.ref _, Value.ref _]) _ _ _); k_dflt (refine' pick_list ?qqB ?qqF ?qqX ?qqN ?qqT ?qqk ?qqd ?qqu ?qqK ?qql ?qqm ?qqm2 ?qqb ?_; (case qqB => k_asm); (case qqF => k_asm); (case qqX => k_asm); (case qqT => k_asm); (case qqk => first | exact rfl | assumption); (case qqd => ktr_room); (case qqu => ktr_units); (case qqN => ((rename News _ _ _ _ => «nX✝»); exact rot «nX✝»)); (case qqK => first | exact Deck.push (by assumption) (by assumption) | exact Deck.push (Deck.updd (by assumption)) (by assumption) | exact Deck.push (Deck.upd1 (by assumption)) (by assumption)); (case qql => exact List.mem_cons_self ..); (case qqm => simp); (case qqm2 => simp); (case qqb => rfl)); intro «b'✝» «t'✝» «od'✝» «oc'✝» «h'✝» «tk'✝» «hb'✝» «K'✝» «F'✝» «N'✝»; have «hz'✝» := menu_size «hb'✝» rfl)
  k_with "call ref" => (k_here; (with_reducible show wpAny _ _ (call (Value.ref 126) [Value.ref _, Value.ref 107]) _ _ _); k_dflt (refine' pick_tup ?qqB ?qqF ?qqX ?qqN ?qqT ?qqk ?qqd ?qqu ?qqK (fun h X => pads_tup X) ?qqm ?qqm2 pads_bytes.1 ?_; (case qqB => k_asm); (case qqF => k_asm); (case qqX => k_asm); (case qqN => first | k_asm | exact rot (by assumption)); (case qqT => k_asm); (case qqk => first | exact rfl | assumption); (case qqd => ktr_room); (case qqu => ktr_units); (case qqK => first | assumption | exact Deck.push (by assumption) (by assumption) | exact Deck.upd1 (by assumption) | exact Deck.upd2 (by assumption) | exact Deck.updd (by assumption) | exact Deck.push (Deck.updd (by assumption)) (by assumption) | exact Deck.push (Deck.upd1 (by assumption)) (by assumption)); (case qqm => rw [pads_bytes.2.1]; decide); (case qqm2 => rw [pads_bytes.2.1]; decide)); intro «b'✝» «t'✝» «od'✝» «oc'✝» «h'✝» «tk'✝» «hb'✝» «K'✝» «F'✝» «N'✝»; have «hz'✝» := (pad_le «hb'✝»).1; have «hn'✝» := (pad_le «hb'✝»).2; clear «hb'✝»)
  k_with "call ref" => (k_here; (with_reducible show wpAny _ _ (call (Value.ref 126) [Value.ref _, Value.ref 106]) _ _ _); k_dflt (refine' pick_tup ?qqB ?qqF ?qqX ?qqN ?qqT ?qqk ?qqd ?qqu ?qqK (fun h X => words_tup X) ?qqm ?qqm2 words_bytes.1 ?_; (case qqB => k_asm); (case qqF => k_asm); (case qqX => k_asm); (case qqN => first | k_asm | exact rot (by assumption)); (case qqT => k_asm); (case qqk => first | exact rfl | assumption); (case qqd => ktr_room); (case qqu => ktr_units); (case qqK => first | assumption | exact Deck.push (by assumption) (by assumption) | exact Deck.upd1 (by assumption) | exact Deck.upd2 (by assumption) | exact Deck.updd (by assumption) | exact Deck.push (Deck.updd (by assumption)) (by assumption) | exact Deck.push (Deck.upd1 (by assumption)) (by assumption)); (case qqm => rw [words_bytes.2.1]; decide); (case qqm2 => rw [words_bytes.2.1]; decide)); intro «b'✝» «t'✝» «od'✝» «oc'✝» «h'✝» «tk'✝» «hb'✝» «K'✝» «F'✝» «N'✝»; have «hz'✝» := (word_le «hb'✝»).1; have «hn'✝» := (word_le «hb'✝»).2; clear «hb'✝»)
  k_with "binaryOp Add bytes bytes" => (k_here; (with_reducible show wpAny _ _ (binaryOp Operator.Add (Value.bytes _ _) (Value.bytes _ _)) _ _ _); refine add_nohash (by assumption) (by assumption) (by omega) ?_; intro «d'✝» «t'✝» «k'✝» «hn'✝» «hz'✝»)
  k_with "call builtin:bytes.join" => (k_here; (rename News _ _ _ _ => «nX✝»); (refine' join_nohash (News.isList «nX✝» ?qqjm) ?qqja ?qqjc ?qqjz ?qqjn ?qqjh ?_); (case qqjm => k_mem); (case qqja => first | exact BB.BAre.nil | (with_unfolding_all exact BB.BAre.cons _ _ BB.BAre.nil) | (with_unfolding_all exact BB.BAre.cons _ _ (BB.BAre.cons _ _ BB.BAre.nil)) | (with_unfolding_all exact BB.BAre.cons _ _ (BB.BAre.cons _ _ (BB.BAre.cons _ _ BB.BAre.nil)))); (case qqjc => rfl); (case qqjz => decide); (case qqjn => simp); (case qqjh => (repeat (first | exact all_nil | refine all_cons ⟨by omega, by assumption⟩ ?_))); intro «d'✝» «t'✝» «k'✝» «hn'✝» «hz'✝»)
  k_with "eval ListComp" => (k_here; k_dflt (refine' LCg.ListComp_U (F₀ := ?qqa) ?qqb ?qqc ?qqd ?qqe ?qqf ?_; (case qqa => k_asm); (case qqb => rfl); (case qqc => decide); (case qqd => rfl); (case qqe => decide); (case qqf => rfl)))
  k_with "FinE" => ((unfold LCg.FinE); intro «D'✝» «h'✝» «tk'✝» «F'✝» «N'✝» «o1'✝»; (try simp only [LCg.Off1, and_true] at «o1'✝»); (try rw [lst_eq] at «N'✝»); (try dsimp only))
  trivial
theorem allLt_ne {I : Addr} : ∀ {l : List (Addr × Obj)}, AllLt I l → ∀ p ∈ l, p.1 ≠ I
  | [], _, p, hp => nomatch hp
  | q :: l, h, p, hp => by
    rcases List.mem_cons.mp hp with rfl | hp
    · exact Nat.ne_of_lt h.1
    · exact allLt_ne h.2 p hp
theorem ints_get : ∀ {vs : List Value} {ns : List Int} (_ : IntsAre vs ns) {i : Nat} {v : Value} (_ : vs[i]? = some v), ∃ n t, v = .int n t ∧ ns[i]? = some n
  | _, _, .nil, i, v, h => by simp at h
  | _, _, .cons n t r, 0, v, h => ⟨n, t, by simpa using h.symm, rfl⟩
  | _, _, .cons n t r, i + 1, v, h => by
    obtain ⟨a, b, c, d⟩ := ints_get r (i := i) (v := v) (by simpa using h)
    exact ⟨a, b, c, by simpa using d⟩
set_option maxHeartbeats 8000000 in
theorem deck_spec {S : Addr} {vs : List Value} {ns : List Int} {cs' : Scope} (B : Below A₀ base outer h₀) (F : Fr h₀ L s.heap m) (X : (hd.heap_39 w.params).In h₀) (N : News h₀ L s.heap news) (T : Top hd.view_39 loose mean mg mb h₀) (hk : cs.kind = .function)
    (hdp : dp + 40 < recursionLimit) (hu : un + 400 < cLine) (hL : h₀.IsList S vs.toArray) (hI : IntsAre vs ns) (hn : ns.length ≤ 63)
    (ret : ∀ D C od' oc' h' tk, Deck w D C od' oc' news → Fr h₀ L h' m → News h₀ L h' ((D, od') :: (C, oc') :: news) → Q (.ref D) { s with heap := h', toks := tk }) :
    wpAny (model PySem.Challenge.rw_nt0003_01.prog w) (ktrTop dp un gd cn cs L a ccd cl outer) (call (.ref 112) [.ref S]) Q E s := by
  revert X; k_fill; intro X
  have hlen := IntsAre.length hI
  refine wpAny_call ?_
  k_dflt cell_enter
  rename Fr h₀ L _ m => FG
  have hLg := hL.at fun o e => FG.keep S o e
  k_steps
  k_dflt (refine' LCg.CompSrc.ledger ?h ?F ?N ?m ?z ?_; (case F => k_asm); (case N => k_asm); (case m => k_mem); (case h => rfl); (case z => (have q := IntsAre.length (by assumption : IntsAre _ (List.take 40 ns)); simp only [List.size_toArray]; rw [sizeLine_eq]; omega)))
  intro g
  rename IntsAre _ (List.take 40 ns) => hW
  have hWl := IntsAre.length hW
  refine compRest_ind (fun i ys nw => nw = _ ∧ IntsAre ys ((ns.take 40).take i)) ?turn ?fin _ 0 [] _ (Nat.zero_add _) ⟨rfl, IntsAre.nil⟩
  case turn =>
    rintro i ys news' v I oI C1 oC D1 m₂ h tk E' hi ⟨rfl, hys⟩ hv hC hx F1 N1 off ne
    obtain ⟨n, t, rfl, hn'⟩ := ints_get hW (by simpa using hv)
    k_steps
    refine LCg.CompEnd.intro (by assumption) N1 ((_, _) :: news) (fun _ h => h) off (.inr ⟨_, List.mem_cons_self .., rfl, _, rfl⟩) ⟨rfl, ?_⟩
    rw [List.take_add_one, hn']
    exact IntsAre.append hys (.cons n _ .nil)
  case fin =>
    rintro ys news' ⟨rfl, hys⟩
    rw [List.take_of_length_le (by simp at hWl ⊢; omega)] at hys
    have hyl := IntsAre.length hys
    k_steps
    rename Fr _ _ _ _ => lF
    with_unfolding_all refine' For_invVF lF ?k1 ?k2 ?_
    case k1 => exact rfl
    case k2 => exact rfl
    k_steps
    rename_i l1a D' ws' h1 F1 N1 hI1 hC1 l1b h2 o2 F2 N2 hd2 kF kN kT kX
    refine ret _ D' o2 (listOf ws'.toArray 0) _ _ ⟨⟨_, _, _, _, _, rfl, hI1, ?_, hd2⟩, (Nat.ne_of_lt l1b.1), ?_, ?_⟩ kF (fun p hp => kN p ?_)
    · have := IntsAre.length hI1
      simp only [List.length_reverse] at *
      omega
    · exact allLt_ne l1a.2.2.2
    · exact allLt_ne l1b.2.2.2.2
    · simp only [List.mem_cons] at hp ⊢
      rcases hp with h | h | h
      · exact .inr (.inl h)
      · exact .inl h
      · exact .inr (.inr (.inr (.inr (.inr h))))
end
end Mine
namespace Mine
theorem rules14 : True := by
  w_top off
  k_with_none
  k_with "execs cons" => (k_here; (try k_gentoks); (with_reducible refine execs_hide ?_); intro «Q✝» «k✝»; try dsimp only)
  trivial
/-! what an exception object keeps while the machine writes its trace -/
/-- the object at e: its own names' dict and its context -/
def KeepsE (e : Addr) (d : Option Addr) (c : Value) (h : Heap) : Prop := ∃ o vs, h.get? e = some o ∧ o.dict = d ∧ o.data = .fields vs ∧ vs[2]? = some c
/-- a change of an object that leaves that alone -/
def CalmF (f : Obj → Obj) : Prop := ∀ o, (f o).dict = o.dict ∧ (f o).isFreed = o.isFreed ∧ ∀ vs, o.data = .fields vs → ∃ vs', (f o).data = .fields vs' ∧ vs'[2]? = vs[2]?
inductive Calm {α : Type} : Sem α → Prop
  | pure (a : α) : Calm (.pure a)
  | raise (e : Value) : Calm (.raise e)
  | unsupported (w : String) : Calm (.unsupported w)
  | rule (t : String) {k : Unit → Sem α} (h : ∀ x, Calm (k x)) : Calm (.rule t k)
  | at (p : Pos) {k : Unit → Sem α} (h : ∀ x, Calm (k x)) : Calm (.at p k)
  | load (a : Addr) (p : Option Value) {k : Obj → Sem α} (h : ∀ x, Calm (k x)) : Calm (.load a p k)
  | update (a : Addr) (p : Option Value) {f : Obj → Obj} {k : Unit → Sem α} (hf : CalmF f) (h : ∀ x, Calm (k x)) : Calm (.update a p f k)
  | alloc (o : Obj) {k : Addr → Sem α} (h : ∀ x, Calm (k x)) : Calm (.alloc o k)
  | loadIfAlive (a : Addr) {k : Option Obj → Sem α} (h : ∀ x, Calm (k x)) : Calm (.loadIfAlive a k)
  | point (l : List Value) {k : Unit → Sem α} (h : ∀ x, Calm (k x)) : Calm (.point l k)
  | fresh {k : Tok → Sem α} (h : ∀ x, Calm (k x)) : Calm (.fresh k)
  | ask {k : Setting → Sem α} (h : ∀ x, Calm (k x)) : Calm (.ask k)
  | handled (b : Bool) {k : Option Value → Sem α} (h : ∀ x, Calm (k x)) : Calm (.handled b k)
  | stack {k : List (Code × Pos) → Sem α} (h : ∀ x, Calm (k x)) : Calm (.stack k)
theorem KeepsE.push {e : Addr} {d : Option Addr} {c : Value} {h : Heap} (x : KeepsE e d c h) (o : Obj) : KeepsE e d c (h.push o) :=
  let ⟨o', vs, ho, r⟩ := x; ⟨o', vs, Heap.get?_push_of_some _ ho, r⟩
theorem KeepsE.update {e a : Addr} {d : Option Addr} {c : Value} {h : Heap} {f : Obj → Obj} (x : KeepsE e d c h) (hf : CalmF f) : KeepsE e d c (h.update a f) := by
  obtain ⟨o, vs, ho, hd, hv, h2⟩ := x
  by_cases q : a = e
  · subst q
    obtain ⟨f1, f2, f3⟩ := hf o
    obtain ⟨vs', hv', h2'⟩ := f3 vs hv
    refine ⟨f o, vs', Heap.get?_update_self _ ho (f2.trans (Heap.get?_some_iff.mp ho).2), f1.trans hd, hv', h2'.trans h2⟩
  · exact ⟨o, vs, (Heap.get?_update_other _ _ q).trans ho, hd, hv, h2⟩
theorem Calm.bind {α β : Type} {m : Sem α} {f : α → Sem β} (h : Calm m) (hf : ∀ a, Calm (f a)) : Calm (m >>= f) := by
  show Calm (m.bind f)
  induction h with
  | pure a => exact hf a
  | raise e => exact .raise e
  | unsupported w => exact .unsupported w
  | rule t h ih => exact .rule t ih
  | «at» p h ih => exact .at p ih
  | load a p h ih => exact .load a p ih
  | update a p hf h ih => exact .update a p hf ih
  | alloc o h ih => exact .alloc o ih
  | loadIfAlive a h ih => exact .loadIfAlive a ih
  | point l h ih => exact .point l ih
  | fresh h ih => exact .fresh ih
  | ask h ih => exact .ask ih
  | handled b h ih => exact .handled b ih
  | stack h ih => exact .stack ih
theorem Calm.pure' {α : Type} (a : α) : Calm (Pure.pure a : Sem α) := .pure a
theorem Calm.ite {α : Type} {p : Prop} [Decidable p] {a b : Sem α} (h1 : Calm a) (h2 : Calm b) : Calm (if p then a else b) := by
  split
  · exact h1
  · exact h2
theorem wp_calm {α : Type} {M : Model} {Γ : PySem.Ctx} {m : Sem α} (hm : Calm m) {e : Addr} {d : Option Addr} {c : Value} : ∀ {Q : α → Pos → Shared → Prop} {E : Value → Pos → Shared → Prop} {p : Pos} {s : Shared},
    Sem.wp M Γ m Q E p s → KeepsE e d c s.heap → Sem.wp M Γ m (fun a p s' => Q a p s' ∧ KeepsE e d c s'.heap) (fun x p s' => E x p s' ∧ KeepsE e d c s'.heap) p s := by
  induction hm with
  | pure a => intro Q E p s h k; exact ⟨h, k⟩
  | raise e => intro Q E p s h k; exact ⟨h, k⟩
  | unsupported w => intro Q E p s h k; exact h.elim
  | rule t _ ih => intro Q E p s h k; exact ih () h k
  | «at» p _ ih => intro Q E p s h k; exact ih () h k
  | load a p _ ih => intro Q E p s h k; obtain ⟨o, ho, h⟩ := h; exact ⟨o, ho, ih o h k⟩
  | update a p hf _ ih => intro Q E p s h k; exact ⟨h.1, ih () h.2 (k.update hf)⟩
  | alloc o _ ih => intro Q E p s h k; exact ih _ h (k.push o)
  | loadIfAlive a _ ih => intro Q E p s h k; exact ih _ h k
  | point l _ ih => intro Q E p s h k; exact ih () h k
  | fresh _ ih => intro Q E p s h k; exact ih _ h k
  | ask _ ih => intro Q E p s h k; exact ih _ h k
  | handled b _ ih => intro Q E p s h k; exact ih _ h k
  | stack _ ih => intro Q E p s h k; exact ih _ h k
theorem wpAny_calm {α : Type} {M : Model} {A : Around} {m : Sem α} (hm : Calm m) {e : Addr} {d : Option Addr} {c : Value} {Q : α → Shared → Prop} {E : Value → Shared → Prop} {s : Shared}
    (h : wpAny M A m Q E s) (k : KeepsE e d c s.heap) : wpAny M A m (fun a s' => Q a s' ∧ KeepsE e d c s'.heap) (fun x s' => E x s' ∧ KeepsE e d c s'.heap) s :=
  fun Γ p hΓ => wp_calm hm (h Γ p hΓ) k
theorem calm_load (a : Addr) : Calm (load a) := .load _ _ fun x => .pure x
theorem calm_slots (g : Obj → Array (Option Value)) : CalmF fun o => { o with slots := g o } := fun o => ⟨rfl, by obtain ⟨_, _, dt, _⟩ := o; cases dt <;> rfl, fun vs h => ⟨vs, h, rfl⟩⟩
theorem calm_field {i : Nat} (hi : i ≠ 2) (v : Value) : CalmF (Obj.mapFields (·.setIfInBounds i v)) := fun o => by
  obtain ⟨c, d, dt, sl⟩ := o
  cases dt with
  | fields vs => exact ⟨rfl, rfl, fun ws h => ⟨_, rfl, by cases h; rw [Array.getElem?_setIfInBounds_ne hi]⟩⟩
  | _ => exact ⟨rfl, rfl, fun ws h => nomatch h⟩
theorem calm_fieldsOf (v : Value) : Calm (fieldsOf v) := by
  unfold fieldsOf
  cases v with
  | ref a =>
    refine (calm_load a).bind fun o => ?_
    cases o.data <;> first | exact .pure _ | exact .unsupported _
  | _ => exact .unsupported _
theorem calm_getField (v : Value) (i : Nat) : Calm (field v i) := by
  unfold field
  refine (calm_fieldsOf v).bind fun vs => ?_
  cases vs[i]? <;> first | exact .pure _ | exact .unsupported _
theorem calm_setField (v : Value) {i : Nat} (hi : i ≠ 2) (x : Value) : Calm (setField v i x) := by
  unfold setField
  cases v with
  | ref a =>
    unfold updateField
    refine (calm_load a).bind fun o => ?_
    cases o.data with
    | fields vs =>
      refine .ite ?_ (.unsupported _)
      exact .update _ _ (calm_field hi x) fun _ => .pure _
    | _ => exact .unsupported _
  | _ => exact .unsupported _
theorem calm_setFlight (e : Value) (f : Option Addr) : Calm (setFlight e f) := by
  unfold setFlight
  refine (calm_getField e 1).bind fun tb => ?_
  refine .ite (calm_setField _ (by decide) _) (.pure _)
theorem calm_frameEnvs : Calm frameEnvs := by
  unfold frameEnvs
  exact Calm.bind (.stack fun l => .pure _) fun l => .pure _
theorem calm_behind (env : Env) (outer : List Env) : Calm (behindIsImport env outer) := by
  unfold behindIsImport
  refine .ite (.pure _) ?_
  refine .ite (.pure _) ?_
  exact (calm_getField _ _).bind fun v => .pure _
theorem calm_keptBack (env : Env) (b : Bool) (outer : List Env) : Calm (keptBack env b outer) := by
  cases outer with
  | nil =>
    unfold keptBack
    refine .ite (.pure _) ?_
    refine Calm.bind ?_ fun v => .pure _
    unfold underTheClaimsCaller
    exact Calm.bind (.stack fun l => .pure _) fun l => .pure _
  | cons c r => unfold keptBack; exact .pure _
theorem calm_ready : ∀ l : List Env, Calm (readyFrames l)
  | [] => by unfold readyFrames; exact .pure _
  | env :: outer => by
    unfold readyFrames
    cases env.frame with
    | none => exact .unsupported _
    | some f =>
      refine (calm_load f).bind fun o => ?_
      refine .ite (.pure _) ?_
      refine (calm_behind _ _).bind fun b => (calm_keptBack _ _ _).bind fun v => ?_
      exact .update _ _ (calm_slots _) fun _ => calm_ready outer
theorem calm_frameObject (l : List Env) : Calm (frameObject l) := by
  cases l with
  | nil => unfold frameObject; exact .pure _
  | cons e r => unfold frameObject; exact (calm_ready _).bind fun _ => .pure _
theorem calm_frameOf (env : Env) : Calm (PySem.frameOf env) := by
  unfold PySem.frameOf
  refine calm_frameEnvs.bind fun l => (calm_frameObject _).bind fun o => ?_
  cases o <;> first | exact .pure _ | exact .unsupported _
theorem calm_place (f : Addr) (b : Bool) : Calm (entryPlaceOf f b) := by
  unfold entryPlaceOf
  refine Calm.bind (.stack fun l => .pure _) fun l => ?_
  split <;> exact .pure _
theorem calm_newFields (t : String) (vs : List Value) : Calm (newFields t vs) := by
  unfold newFields newObj
  refine Calm.ite (.unsupported _) ?_
  exact .alloc _ fun x => .pure _
theorem calm_newEntry (a b c d e : Value) (l : List Value) : Calm (EntryCells.newEntry a b c d e l) := calm_newFields _ _
theorem calm_note (e : Value) (env : Env) : Calm (noteFrame e env) := by
  unfold noteFrame
  cases env.frame with
  | none => exact .unsupported _
  | some f =>
    refine (calm_getField _ _).bind fun head => ?_
    have rest : Calm (do setField e 1 (← EntryCells.newEntry head (← PySem.frameOf env) .none (rawInt f) .none (← entryPlaceOf f (head != .none)))) :=
      (calm_frameOf env).bind fun v => (calm_place _ _).bind fun l => (calm_newEntry _ _ _ _ _ _).bind fun x => calm_setField _ (by decide) _
    refine .ite ?_ rest
    refine (calm_getField _ _).bind fun x => ?_
    refine .ite (.pure _) ?_
    exact (calm_setField _ (by decide) _).bind fun _ => rest
theorem calm_leaving (env : Env) (e : Value) : Calm (leaving env e) := by
  unfold leaving
  exact (calm_note _ _).bind fun _ => calm_setFlight _ _
end Mine
namespace Mine
theorem rules15 : True := by
  w_top off
  k_with_none
  k_with "execs cons" => (k_here; (try k_gentoks); (with_reducible refine execs_hide ?_); intro «Q✝» «k✝»; try dsimp only)
  trivial
/-! the two exception classes with an inherited __init__ -/
noncomputable abbrev KK (w : World) : Frag := hd.heap_39 w.params
abbrev PG : Program := PySem.Challenge.rw_nt0003_01.prog
abbrev exMro : List Value := [.ref 32, .type "Exception", .type "BaseException", .type "object"]
structure ExC (w : World) (C : Addr) : Prop where
  cls : ∃ nm q N bs sn sub ab col dd k0 k1 k2 k3 k5, (KK w).lookup C = some (excClassObj nm q C N bs exMro true sn sub ab col dd k0 k1 k2 k3 k5 "Exception.__new__")
  init : findIn (KK w) (.ref C) "__init__" = some (some (.ref 29))
theorem exc57 (w : World) : ExC w 57 := ⟨⟨_, _, _, _, _, _, _, _, _, _, _, _, _, _, by with_unfolding_all rfl⟩, by with_unfolding_all rfl⟩
theorem exc45 (w : World) : ExC w 45 := ⟨⟨_, _, _, _, _, _, _, _, _, _, _, _, _, _, by with_unfolding_all rfl⟩, by with_unfolding_all rfl⟩
section
variable {w : World} {A : Around} {E : Value → Shared → Prop} {h : Heap} {g : Array GenState} {d : Drawn} {t : Nat} {os : OsState}
variable {nm q : Str} {C N : Addr} {bs bm : List Value} {hdct : Bool} {sn : List Str} {sub : List Value} {ab : Bool} {col : Option Bool} {dd : Option Addr} {k0 k1 k2 k3 k5 : Option Value}
theorem exc_check {M : Model} {rest : List Value} {Q : Unit → Shared → Prop} (hC : h.get? C = some (excClassObj nm q C N bs exMro hdct sn sub ab col dd k0 k1 k2 k3 k5 "Exception.__new__")) (hq : Q () ⟨h, g, d, t, os⟩) :
    wpAny M A (checkBuiltinCall "Exception.__new__" ⟨.ref C :: rest, []⟩) Q E ⟨h, g, d, t, os⟩ := by
  have hcont : (Value.ref C :: exMro).contains (.type "Exception") = true := by simp
  have hstar := PySem.F.excBase_Exception.noStar
  simp only [checkBuiltinCall, PySem.F.excBase_Exception.newKind, PySem.F.excBase_Exception.newSplit, PySem.F.excBase_Exception.newRow]
  repeat (first | refine wpAny_loadPart_at hC ?_ | (refine wpAny_isSubtype_exc hC ?_; rw [hcont]) | refine wpAny_staticBase_exc hC ?_ | refine wpAny_madeBy_exc hC ?_ | simp only [bne_self_eq_false, Bool.false_eq_true, if_false] | wp_step)
  exact hq
theorem exc_new {prog : Program} {R : Result → Shared → Prop} {rest : List Value} (hC : h.get? C = some (excClassObj nm q C N bs exMro hdct sn sub ab col dd k0 k1 k2 k3 k5 "Exception.__new__"))
    (hq : R (.ok (.ret (.ref (h.objs.size + 1)))) ⟨(h.push { cls := .type "tuple", data := .seq rest.toArray }).push
      { cls := .ref C, data := .fields #[.ref h.objs.size, .none, .none, .none, .bool false, .none] }, g, d, t, os⟩) (hrest : rest.length ≤ sizeLine) :
    codeAny (model prog w) A (.builtin "Exception.__new__" ⟨.ref C :: rest, []⟩) R ⟨h, g, d, t, os⟩ := by
  have FF := PySem.F.excBase_Exception
  have hends := FF.ends
  have hcB : (Value.ref C :: exMro).contains (.type "Exception") = true := by simp
  have hcA : (Value.ref C :: exMro).contains (.type "AttributeError") = false := by rw [List.contains_cons]; show (false || exMro.contains _) = false; decide +kernel
  have hcN : (Value.ref C :: exMro).contains (.type "NameError") = false := by rw [List.contains_cons]; show (false || exMro.contains _) = false; decide +kernel
  refine codeAny_builtinAt FF.entry ?_
  unfold Builtin.«BaseException.__new__»
  refine PySem.wpAt_bind ?_
  show PySem.wpAt _ _ _ (stack >>= _) _ _ _
  refine PySem.wpAt_bind (PySem.wpAt_stack fun p below => PySem.wpAt_of_wpAny ?_)
  wp_walk
  refine PySem.wpAt_of_wpAny ?_
  rw [FF.owner]
  repeat (first | with_reducible refine wpAny_madeHere_exc FF.canon hC ?_ | with_reducible refine wpAny_loadPart_at hC ?_ | (with_reducible refine wpAny_isSubtype_exc hC ?_; first | rw [hcB] | rw [hcA] | rw [hcN]) | wp_step)
  show R _ _
  rw [Heap.size_push]
  exact hq
theorem exc_type_call {rest : List Value} {Q : PySem.Fin → Shared → Prop} (XC : ExC w C) (X : (KK w).In h) {oI : Obj} (hfI : h.get? 29 = some oI) (hfc : oI.cls = .type "function")
    (hq : ∀ h' e, Heap.MadeExcOf h h' e (.ref C) rest →
      wpAny (model PG w) A (call (.ref 29) (.ref e :: rest)) (fun r s' => r = .none ∧ Q (.done (.ret (.ref e))) s') E ⟨h', g, d, t, os⟩) (hrest : rest.length ≤ sizeLine) :
    wpAny (model PG w) A (Builtin.«type.__call__» ⟨.ref C :: rest, []⟩) Q E ⟨h, g, d, t, os⟩ := by
  have FF := PySem.F.excBase_Exception
  obtain ⟨nm, q, N, bs, sn, sub, ab, col, dd, k0, k1, k2, k3, k5, hl⟩ := XC.cls
  have hC := X _ _ hl
  repeat (first | with_reducible refine wpAny_loadPart_at hC ?_ | with_reducible refine wpAny_madeBy_exc hC ?_ | wp_step)
  refine codeAny_call_builtin_code (Code.quiet_builtin _ FF.quiet) (exc_check hC ?_)
  refine exc_new hC ?_ hrest
  show wpAny _ _ _ _ _ _
  have up : ∀ b o, h.get? b = some o → ((h.push { cls := .type "tuple", data := .seq rest.toArray }).push { cls := .ref C, data := .fields #[.ref h.objs.size, .none, .none, .none, .bool false, .none] }).get? b = some o :=
    fun b o e => Heap.get?_push_of_some _ (Heap.get?_push_of_some _ e)
  have hC₁ := up _ _ hC
  have hfI₁ := up _ _ hfI
  have hget : ((h.push { cls := .type "tuple", data := .seq rest.toArray }).push
      { cls := .ref C, data := .fields #[.ref h.objs.size, .none, .none, .none, .bool false, .none] }).get? (h.objs.size + 1) = some
      { cls := .ref C, data := .fields #[.ref h.objs.size, .none, .none, .none, .bool false, .none] } := by heap_get
  have hcC : (Value.ref C :: exMro).contains (.ref C) = true := by simp
  unfold isInstance
  repeat (first | with_reducible refine wpAny_loadPart_at hget ?_ | (with_reducible refine wpAny_isSubtype_exc hC₁ ?_; rw [hcC]) | wp_step)
  show wpAny _ _ (typeLookup (.ref C) _) _ _ _
  refine looks_findIn X XC.init _ _ _ _ up ?_
  refine wpAny_holding (wpAny_bind ?_)
  unfold bindSpecial
  refine wpAny_bind (wpAny_typeOf (T := "function") ⟨_, hfI₁, hfc⟩ ?_)
  rw [if_pos (by decide)]
  refine wpAny_pure (wpAny_bind (wpAny_mono (hq _ (h.objs.size + 1) ⟨up, Heap.get?_none_of_le (Nat.le_succ _), h.objs.size, hget, Heap.get?_none_of_le (Nat.le_refl _), ?_⟩) (fun r s' hr => ?_) fun _ _ x => x))
  · exact Heap.get?_push_of_some _ (Heap.get?_push_at rfl rfl)
  · obtain ⟨rfl, hQ⟩ := hr
    wp_walk
    exact hQ
theorem exc_call {rest : List Value} {Q : Value → Shared → Prop} (XC : ExC w C) (X : (KK w).In h) {oI : Obj} (hfI : h.get? 29 = some oI) (hfc : oI.cls = .type "function")
    (hq : ∀ h' e, Heap.MadeExcOf h h' e (.ref C) rest →
      wpAny (model PG w) (A.under (.builtin "type.__call__" ⟨.ref C :: rest, []⟩)) (call (.ref 29) (.ref e :: rest)) (fun r s' => r = .none ∧ Q (.ref e) s') E ⟨h', g, d, t, os⟩) (hrest : rest.length ≤ sizeLine) :
    wpAny (model PG w) A (call (.ref C) rest) Q E ⟨h, g, d, t, os⟩ := by
  obtain ⟨nm, q, N, bs, sn, sub, ab, col, dd, k0, k1, k2, k3, k5, hl⟩ := id XC.cls
  have hC := X _ _ hl
  have f1 := tc_lookup
  have f2 := tc_bind (.ref C)
  have hT : (⟨h, g, d, t, os⟩ : Shared).TypeIs (.ref C) "type" := ⟨_, hC, rfl⟩
  refine wpAny_call (codeAny_of_tree ?_)
  show wpAny _ _ (callAny (.ref C) _) _ _ _
  repeat (any_goals (first | assumption | with_reducible refine wpAny_loadPart_at hC ?_ | wp_step))
  refine ⟨rfl, ?_⟩
  refine codeAny_call_builtin_at (Code.quiet_builtin _ (by decide +kernel)) entry_typeCall (wpAny_check_type_call_sub hC (exc_type_call XC X hfI hfc (fun h' e hm => ?_) hrest))
  exact hq h' e hm
end
end Mine
namespace Mine
theorem rules16 : True := by
  w_top off
  k_with_none
  k_with "execs cons" => (k_here; (try k_gentoks); (with_reducible refine execs_hide ?_); intro «Q✝» «k✝»; try dsimp only)
  trivial
theorem ex_told (w : World) {C : Addr} (hC : C = 57 ∨ C = 45) : findIn (KK w) (.ref C) "told" = some none := by
  rcases hC with rfl | rfl <;> with_unfolding_all rfl
theorem ex_setattr (w : World) {C : Addr} (hC : C = 57 ∨ C = 45) : findIn (KK w) (.ref C) "__setattr__" = some (some (.builtin "object.__setattr__")) := by
  rcases hC with rfl | rfl <;> with_unfolding_all rfl
theorem exc_of (w : World) {C : Addr} (hC : C = 57 ∨ C = 45) : ExC w C := by
  rcases hC with rfl | rfl
  · exact exc57 w
  · exact exc45 w
section
variable {w : World} {A : Around} {E : Value → Shared → Prop} {h : Heap} {g : Array GenState} {d : Drawn} {t : Nat} {os : OsState} {C x : Addr} {o : Obj} {v : Value}
variable {nm q : Str} {N : Addr} {bs bm : List Value} {hdct : Bool} {sn : List Str} {sub : List Value} {ab : Bool} {col : Option Bool} {dd : Option Addr} {k0 k1 k2 k3 k5 : Option Value}
theorem ex_check_sa {M : Model} {nameV : Value} {Q : Unit → Shared → Prop} (hC : h.get? C = some (excClassObj nm q C N bs exMro hdct sn sub ab col dd k0 k1 k2 k3 k5 "Exception.__new__")) (hx : h.get? x = some o) (hc : o.cls = .ref C) (hq : Q () ⟨h, g, d, t, os⟩) :
    wpAny M A (checkBuiltinCall "object.__setattr__" ⟨[.ref x, nameV, v], []⟩) Q E ⟨h, g, d, t, os⟩ := by
  have SF := PySem.F.store_Exception
  have hcB : (Value.ref C :: exMro).contains (.type "object") = true := by simp
  simp only [checkBuiltinCall, SF.kind, SF.split]
  refine wpAny_bind ?_
  · unfold isInstance
    repeat (first | (with_reducible refine wpAny_loadPart_at hx ?_; rw [hc]) | (with_reducible refine wpAny_isSubtype_exc hC ?_; rw [hcB]) | wp_step)
    exact hq
open Builtin Builtin.ObjectAttr in
theorem ex_store_entry {tk : Tok} {Q : PySem.Fin → Shared → Prop} (hcc : C = 57 ∨ C = 45) (X : (KK w).In h)
    (hx : h.get? x = some o) (hc : o.cls = .ref C) (hdn : o.dict = none) (hf : ∃ vs, o.data = .fields vs)
    (hq : ∀ h' tk' od, h'.get? x = some { o with dict := some h.objs.size } → h'.get? h.objs.size = some od → LCg.NsObj od (fun y => if y = ("told" : Str) then some v else none) →
      (∀ b o, b ≠ x → h.get? b = some o → h'.get? b = some o) → Q (.done (.ret .none)) ⟨h', g, d, tk', os⟩) :
    wpAny (model PG w) A (Builtin.«object.__setattr__» ⟨[.ref x, .str "told" tk, v], []⟩) Q E ⟨h, g, d, t, os⟩ := by
  obtain ⟨nm, q, N, bs, sn, sub, ab, col, dd, k0, k1, k2, k3, k5, hl⟩ := id (exc_of w hcc).cls
  have hC := X _ _ hl
  have hpass := PySem.F.store_Exception.passes (.ref x)
  have hnc : ∀ c, o.data ≠ .cls c := fun c e => by obtain ⟨vs, hv⟩ := hf; rw [hv] at e; cases e
  unfold Builtin.«object.__setattr__»
  repeat (first | rw [refuse_eq] | (rw [refuseLoop_ref, refuseLoop_ref, hpass]) | (with_reducible refine wpAny_loadPart_at hx ?_; rw [hc]) | with_reducible refine wpAny_mroOf_exc hC ?_ | (with_reducible refine looks_findIn X (ex_told w hcc) _ _ _ _ (fun _ _ e => e) ?_) | wp_step)
  refine looks_findIn X (ex_told w hcc) _ _ _ _ (fun _ _ e => e) ?_
  repeat (first | (with_reducible refine wpAny_loadPart_at hx ?_; rw [hc]) | wp_step)
  rw [hdn, if_neg (by simp [typeHasDict])]
  split
  · rename_i hcd
    cases hcd
  split
  · rename_i c hcd
    exact absurd hcd (hnc c)
  · have hx₁ : (h.push { cls := .type "dict", data := .dict #[] }).get? x = some o := Heap.get?_push_of_some _ hx
    have hxs : x ≠ h.objs.size := Nat.ne_of_lt (Heap.lt_size hx)
    refine wpAny_bind (wpAny_alloc' ?_)
    refine wpAny_bind (wpAny_update' hx₁ ?_)
    refine wpAny_pure ?_
    have hgd : ((h.push { cls := .type "dict", data := .dict #[] }).update x fun o => { cls := o.cls, dict := some h.objs.size, data := o.data, slots := o.slots }).get? h.objs.size
        = some { cls := .type "dict", data := .dict #[] } :=
      (Heap.get?_update_ne _ _ _ _ hxs.symm).trans (Heap.get?_push_at rfl rfl)
    have hnd : ((h.push { cls := .type "dict", data := .dict #[] }).update x fun o => { cls := o.cls, dict := some h.objs.size, data := o.data, slots := o.slots }).Ns h.objs.size (fun _ => none) :=
      ⟨_, #[], _, hgd, rfl, fun e he => absurd he (by simp), fun _ => rfl⟩
    show wpAny _ _ (storeInDict h.objs.size (.str "told" tk) "told" v) _ _ _
    unfold storeInDict newKeyGuard
    refine wpAny_bind (wpAny_pure (wpAny_bind (wpAny_nsSet1 (Heap.Ns1.of_empty hnd) fun h' hn' hs => ?_)))
    obtain ⟨oD, esD, epD, hoD, hdD, hcD⟩ := hn'.count (Within.cons ("told" : Str) v Within.nil)
    refine wpAny_bind (wpAny_lookBehind hoD (by rw [hdD]; exact pastItsLine_dict (Nat.le_trans hcD (by rw [List.length_cons, List.length_nil, sizeLine_eq]; omega))) ?_)
    wp_walk
    have hx' : h'.get? x = some { cls := o.cls, dict := some h.objs.size, data := o.data, slots := o.slots } := by
      refine (hs.2 x hxs).trans (Heap.get?_update_self _ hx₁ ?_)
      have hfr := (Heap.get?_some_iff.mp hx).2
      obtain ⟨oc, od, odt, osl⟩ := o
      cases odt <;> first | rfl | exact hfr
    obtain ⟨o', es, ep, e1, e2, e3, eu, e4⟩ := hn'
    refine hq h' _ o' hx' e1 ⟨es, ep, e2, e3, fun y => by rw [e4 y]⟩ (fun b ob hbx hb => ?_)
    exact (hs.2 b (Nat.ne_of_lt (Heap.lt_size hb))).trans ((Heap.get?_update_ne _ _ _ _ hbx).trans (Heap.get?_push_of_some _ hb))
theorem ex_store {Q : Unit → Shared → Prop} (hcc : C = 57 ∨ C = 45) (X : (KK w).In h)
    (hx : h.get? x = some o) (hc : o.cls = .ref C) (hdn : o.dict = none) (hf : ∃ vs, o.data = .fields vs)
    (hq : ∀ h' tk' od, h'.get? x = some { o with dict := some h.objs.size } → h'.get? h.objs.size = some od → LCg.NsObj od (fun y => if y = ("told" : Str) then some v else none) →
      (∀ b o, b ≠ x → h.get? b = some o → h'.get? b = some o) → Q () ⟨h', g, d, tk', os⟩) :
    wpAny (model PG w) A (setAttr (.ref x) "told" v) Q E ⟨h, g, d, t, os⟩ := by
  obtain ⟨nm, q, N, bs, sn, sub, ab, col, dd, k0, k1, k2, k3, k5, hl⟩ := id (exc_of w hcc).cls
  have hC := X _ _ hl
  have SF := PySem.F.store_Exception
  have f3 := SF.slot.bind (.ref x)
  unfold setAttr callSpecial? specialOf
  repeat (any_goals (first | assumption | (with_reducible refine wpAny_loadPart_at hx ?_; rw [hc]) | wp_step))
  refine looks_findIn X (ex_setattr w hcc) _ _ _ _ (fun _ _ e => e) ?_
  repeat (any_goals (first | assumption | wp_step))
  refine codeAny_call_builtin SF.slot.plain SF.entry (ex_check_sa hC hx hc (ex_store_entry hcc X hx hc hdn hf fun h' tk' od a1 a2 a3 a4 => ?_))
  repeat (any_goals (first | assumption | wp_step))
  exact hq h' _ od a1 a2 a3 a4
end
end Mine
namespace Mine
theorem rules17 : True := by
  w_top off
  k_with_none
  k_with "execs cons" => (k_here; (try k_gentoks); (with_reducible refine execs_hide ?_); intro «Q✝» «k✝»; try dsimp only)
  trivial
section
variable {w : World} {A : Around} {E : Value → Shared → Prop} {s : Shared} {C x : Addr} {o : Obj} {v : Value}
theorem fd29 (w : World) : ∃ fd od osl, (KK w).lookup 29 = some ⟨.type "function", od, .func fd, osl⟩ ∧ fd.scope.names = [((Str.ofString "self"), NameKind.local), ((Str.ofString "told"), NameKind.local)] ∧ fd.scope.kind = .function ∧ fd.scope.isCoroutine = false ∧ fd.scope.isGenerator = false ∧
    (∃ p1 p2 p3 p4, fd.body = .stmts [.Assign [.Attribute (.Name "self" p1) "told" p2] (.Name "told" p3) p4]) ∧ codeIn (KK w) fd.code fd.qualname = true ∧ (∀ (s : Shared), (KK w).In s.heap → ∀ a b, BindsTo s fd ⟨[a, b], []⟩ [((Str.ofString "self"), a), ((Str.ofString "told"), b)]) := by
  refine' ⟨_, _, _, ?h1, ?h2⟩
  case h1 => with_unfolding_all rfl
  case h2 => exact ⟨rfl, rfl, rfl, rfl, ⟨_, _, _, _, rfl⟩, by with_unfolding_all rfl, fun s X a b => BindsTo.of_defaults (T := 22) rfl (X _ _ (by with_unfolding_all rfl)) rfl rfl rfl⟩
theorem exc_init {R : Value → Shared → Prop} (hcc : C = 57 ∨ C = 45) (X : (KK w).In s.heap) (T : s.heap.NoLimit) (hroom : A.depth < recursionLimit)
    (hx : s.heap.get? x = some o) (hc : o.cls = .ref C) (hdn : o.dict = none) (hf : ∃ vs, o.data = .fields vs)
    (hq : ∀ h' tk' dA od, s.heap.get? dA = none → dA ≠ x → h'.get? x = some { o with dict := some dA } → h'.get? dA = some od → LCg.NsObj od (fun y => if y = ("told" : Str) then some v else none) →
      (∀ b o, b ≠ x → s.heap.get? b = some o → h'.get? b = some o) → R .none { s with heap := h', toks := tk' }) :
    wpAny (model PG w) A (call (.ref 29) [.ref x, v]) R E s := by
  obtain ⟨fd, od, osl, hl, hn, hk, hco, hge, ⟨p1, p2, p3, p4, hb⟩, hcd, hbind⟩ := fd29 w
  refine wpAny_call (codeAny_call_def (fd := fd) (body := _) (binds := [((Str.ofString "self"), .ref x), ((Str.ofString "told"), v)]) hroom (X _ _ hl) rfl T (codeRec_of X hcd) hb (hbind _ X _ _) ?_ ?_ (fun h₀ hns up => ?_) hco hge hk)
  · rw [hn]; decide
  · rw [hn]; intro y hy
    simp only [List.mem_cons, List.not_mem_nil, or_false] at hy
    rcases hy with rfl | rfl <;> rfl
  · have hkind : (callEnv fd s.heap.objs.size 29).scope.kind = .function := hk
    have kl : ∀ y, fd.scope.names.lookup y = some .local → (callEnv fd s.heap.objs.size 29).kindOf y = some .local := fun y e => e
    have hx₁ := up _ _ hx
    refine wpAny_execs_cons (plainObj_wpAny_Assign_Attribute ?_)
    refine wpAny_Name (wpAny_loadName_local hkind (kl _ (by rw [hn]; rfl)) hns (v := v) rfl ?_) (by decide)
    refine wpAny_Name (wpAny_loadName_local hkind (kl _ (by rw [hn]; rfl)) hns (v := .ref x) rfl ?_) (by decide)
    refine ex_store hcc (X.keeps up) hx₁ hc hdn hf fun h' tk' od' a1 a2 a3 a4 => ?_
    refine wpAny_execs_nil ?_
    have hnone : ∀ b, h₀.get? b = none → s.heap.get? b = none := fun b e => by
      cases q : s.heap.get? b with
      | none => rfl
      | some o => have := up _ _ q; rw [e] at this; cases this
    refine hq h' _ h₀.objs.size od' (hnone _ (Heap.get?_none_of_le (Nat.le_refl _))) (Nat.ne_of_gt (Heap.lt_size hx₁)) a1 a2 a3 fun b o' hbx hb => a4 b o' hbx (up _ _ hb)
end
end Mine
namespace Mine
theorem rules18 : True := by
  w_top off
  k_with_none
  k_with "execs cons" => (k_here; (try k_gentoks); (with_reducible refine execs_hide ?_); intro «Q✝» «k✝»; try dsimp only)
  trivial
/-- an exception object just made by a class with the inherited __init__ -/
structure MadeX (h h' : Heap) (e : Addr) (C : Addr) (v ctx : Value) (dA : Addr) (od : Obj) : Prop where
  keeps : ∀ b o, h.get? b = some o → h'.get? b = some o
  new : h.get? e = none
  there : ∃ t, h'.get? e = some { cls := .ref C, dict := some dA, data := .fields #[.ref t, .none, ctx, .none, .bool false, .none] } ∧ h.get? t = none ∧ t ≠ e ∧ dA ≠ t ∧
    h'.get? t = some { cls := .type "tuple", data := .seq #[v] }
  dnew : h.get? dA = none
  dne : dA ≠ e
  dget : h'.get? dA = some od
  told : LCg.NsObj od (fun y => if y = ("told" : Str) then some v else none)
/-- the exception flies: its class, what it tells, its context -/
def RaisedX (base G : Heap) (l : List Env) (e C : Addr) (v ctx : Value) (news : List (Addr × Obj)) (h : Heap) : Prop :=
  ∃ t vs dA od, RaisedS base G l e (.ref C) t vs ((dA, od) :: news) h ∧ KeepsE e (some dA) ctx h ∧ LCg.NsObj od (fun y => if y = ("told" : Str) then some v else none)
theorem RaisedX.sub {base G : Heap} {l : List Env} {e C : Addr} {v ctx : Value} {news news' : List (Addr × Obj)} {h : Heap} (R : RaisedX base G l e C v ctx news h) (hs : ∀ p ∈ news', p ∈ news) : RaisedX base G l e C v ctx news' h := by
  obtain ⟨t, vs, dA, od, ⟨⟨B, a1, a2, a3, a4⟩, a5⟩, a6, a7⟩ := R
  refine ⟨t, vs, dA, od, ⟨⟨B, a1, a2, fun q hq => a3 q ?_, a4⟩, a5⟩, a6, a7⟩
  rcases List.mem_cons.mp hq with rfl | hq
  · exact .head _
  · exact .tail _ (hs q hq)
section
variable {M : Model} {A : Around} {E : Value → Shared → Prop} {s' : Shared} {base g g₂ h : Heap} {outer : List Env} {L a e t : Addr} {m : Str → Option Value} {name : Str} {scope : Scope} {cd : Value} {Q : Unit → Shared → Prop} {news : List (Addr × Obj)} {C : Addr} {v ctx : Value} {dA : Addr} {od : Obj}
theorem leave_raiseX (K : Below A base outer g) (hx : MadeX h s'.heap e C v ctx dA od) (F : Fr g L h m) (N : News g L h news)
    (hQ : ∀ h', RaisedX base g outer e C v ctx news h' → g.UpToSlots h' → Q () { s' with heap := h' }) (hk : scope.kind = .function := by rfl) :
    wpAny M (A.deeper (envOf name scope L a cd)) (leaving (envOf name scope L a cd) (.ref e)) Q E s' := by
  have K' := K.push (name := name) (a := a) (cd := cd) F hk
  obtain ⟨t, he, htn, hte, hdt, ht⟩ := hx.there
  have none_g : ∀ b, h.get? b = none → g.get? b = none := fun b q => by
    cases q' : g.get? b with
    | none => rfl
    | some o => have := F.keep b o q'; rw [q] at this; cases this
  have hfr : ∀ b, b ∈ (envOf name scope L a cd :: outer).filterMap (·.frame) → ∃ o, h.get? b = some o := fun b hb => by
    obtain ⟨o, ho, _⟩ := (K'.frames.mem hb).2
    exact ⟨o, ho⟩
  have hfr0 : ∀ b, b ∈ (envOf name scope L a cd :: outer).filterMap (·.frame) → base.get? b = none := fun b hb => (K'.frames.mem hb).1
  let fs := e :: t :: (envOf name scope L a cd :: outer).filterMap (·.frame)
  let B := hideAll s'.heap fs
  have up : ∀ b o, base.get? b = some o → s'.heap.get? b = some o := fun b o q => hx.keeps b o (K'.stays b o q)
  have base_none : ∀ b, h.get? b = none → base.get? b = none := fun b q => by
    cases q' : base.get? b with
    | none => rfl
    | some o => have := K'.stays b o q'; rw [q] at this; cases this
  have st : base.StaysIn B := fun b o q => hideAll_get _ (up b o q) fun hm => by
    rcases List.mem_cons.mp hm with rfl | hm
    · rw [base_none _ hx.new] at q; cases q
    · rcases List.mem_cons.mp hm with rfl | hm
      · rw [base_none _ htn] at q; cases q
      · rw [hfr0 b hm] at q; cases q
  have sg : ∀ b o, g.get? b = some o → b ∉ outer.filterMap (·.frame) → B.get? b = some o := fun b o q nm => hideAll_get _ (hx.keeps b o (F.keep b o q)) fun hm => by
    rcases List.mem_cons.mp hm with rfl | hm
    · rw [none_g _ hx.new] at q; cases q
    · rcases List.mem_cons.mp hm with rfl | hm
      · rw [none_g _ htn] at q; cases q
      · rcases kts_mem hm with z | z
        · rw [z, kts_self F] at q; cases q
        · exact nm z
  have hd : B.get? dA = some od := hideAll_get _ hx.dget fun hm => by
    rcases List.mem_cons.mp hm with q | hm
    · exact hx.dne q
    · rcases List.mem_cons.mp hm with q | hm
      · exact hdt q
      · obtain ⟨o, ho⟩ := hfr _ hm
        rw [hx.dnew] at ho; cases ho
  have hin : ∀ env ∈ (envOf name scope L a cd :: outer), ∀ b, env.frame = some b → b ∈ fs := fun env he b hb => List.mem_cons_of_mem _ (List.mem_cons_of_mem _ (List.mem_filterMap.mpr ⟨env, he, hb⟩))
  have FF : s'.heap.FunFrames B (envOf name scope L a cd :: outer) := funFrames_hide (K'.frames.of_keeps fun b o hb _ => ⟨o, hx.keeps b o hb, rfl⟩) hin
  have hkeep : KeepsE e (some dA) ctx s'.heap := ⟨_, _, he, rfl, rfl, rfl⟩
  unfold leaving
  refine wpAny_mono (wpAny_calm (calm_leaving _ _) (e := e) (d := some dA) (c := ctx) (wpAny_leaving_firstW (base := B) (a0 := .ref t) (Q := fun _ s₂ => ∃ h', s₂ = { s' with heap := h' } ∧ Heap.LeftW B (envOf name scope L a cd :: outer) e (.ref C) (.ref t) s'.heap h') (E := fun _ _ => False)
    K'.stack FF rfl he (fun b o q => of_hideAll _ q) (hideAll_none _ (.head _)) rfl rfl rfl fun h' hL => ⟨h', rfl, hL⟩) hkeep) (fun _ s₂ hq => ?_) fun _ _ hq => hq.1.elim
  obtain ⟨⟨h', rfl, hL⟩, hk'⟩ := hq
  obtain ⟨k1, ⟨_, _, k2⟩, k3, k4⟩ := hL
  have hnews : ∀ q ∈ (dA, od) :: news, B.get? q.1 = some q.2 ∧ g.get? q.1 = none ∧ base.get? q.1 = none := fun q hq => by
    rcases List.mem_cons.mp hq with rfl | hq
    · exact ⟨hd, none_g _ hx.dnew, base_none _ hx.dnew⟩
    · refine ⟨hideAll_get _ (hx.keeps _ _ (N q hq).1) fun hm => ?_, (N q hq).2.2, fresh_of_stays K.stays (N q hq).2.2⟩
      rcases List.mem_cons.mp hm with z | hm
      · have := (N q hq).1; rw [z, hx.new] at this; cases this
      · rcases List.mem_cons.mp hm with z | hm
        · have := (N q hq).1; rw [z, htn] at this; cases this
        · rcases kts_mem hm with z | z
          · exact (N q hq).2.1 z
          · obtain ⟨o, ho, _⟩ := (K.frames.mem z).2
            rw [(N q hq).2.2] at ho; cases ho
  have R : RaisedS base g outer e (.ref C) t [v] ((dA, od) :: news) h' := ⟨⟨B, st, sg, hnews, ⟨k1, hideAll_none _ (.head _), k2, k3⟩, hideAll_none _ (.tail _ (.head _))⟩, Heap.TupAt.of_slots ⟨_, _, ht, rfl, rfl⟩ k4⟩
  exact hQ h' ⟨t, [v], dA, od, R, hk', hx.told⟩ (((Heap.UpToSlots.of_keeps F.keep).trans (Heap.UpToSlots.of_keeps hx.keeps)).trans k4)
theorem leave_onX (K : Below A base outer g) (F : Fr g L g₂ m) (R : RaisedX base g₂ (envOf name scope L a cd :: outer) e C v ctx news s'.heap) (hsm : g₂.UpToSlots s'.heap)
    (hQ : ∀ h', RaisedX base g outer e C v ctx news h' → g.UpToSlots h' → Q () { s' with heap := h' }) :
    wpAny M (A.deeper (envOf name scope L a cd)) (leaving (envOf name scope L a cd) (.ref e)) Q E s' := by
  obtain ⟨t, vs, dA, od, R, hk, htold⟩ := R
  refine wpAny_mono (wpAny_calm (calm_leaving _ _) (leave_onS (Q := fun _ s₂ => ∃ h', s₂ = { s' with heap := h' } ∧ RaisedS base g outer e (.ref C) t vs ((dA, od) :: news) h' ∧ g.UpToSlots h') (E := fun _ _ => False) K F R hsm fun h' r _ u => ⟨h', rfl, r, u⟩) hk) (fun _ s₂ hq => ?_) fun _ _ hq => hq.1.elim
  obtain ⟨⟨h', rfl, R', u⟩, hk'⟩ := hq
  exact hQ h' ⟨t, vs, dA, od, R', hk', htold⟩ u
end
end Mine
namespace Mine
theorem rules19 : True := by
  w_top off
  k_with_none
  k_with "execs cons" => (k_here; (try k_gentoks); (with_reducible refine execs_hide ?_); intro «Q✝» «k✝»; try dsimp only)
  trivial
section
variable {prog : Program} {w : World} {A₀ : Around} {E : Value → Shared → Prop} {s' : Shared} {base g g₀ G : Heap} {outer : List Env} {L a e C : Addr} {m : Str → Option Value} {name : Str} {scope : Scope} {cd : Value}
  {n : Str} {b₀ : Stmt} {suite : List Stmt} {pos np : Pos} {rest : List ExceptHandler} {Q : Flow → Shared → Prop} {KF : Frag}
  {p : Program} {loose : List Str} {mean : ExcName → Option Value} {mg mb : Str → Option Value} {x : Str} {v ctx : Value} {news : List (Addr × Obj)}
/-- what lies there after the catch -/
structure CaughtX (A₀ : Around) (base : Heap) (outer : List Env) (KF : Frag) (p : Program) (loose : List Str) (mean : ExcName → Option Value) (mg mb : Str → Option Value) (g₀ g' : Heap) (L : Addr) (h' : Heap) (e C : Addr) (v ctx : Value) (news : List (Addr × Obj)) : Prop where
  turn : KtsTurn (outer.filterMap (·.frame)) g₀ g'
  below : Below A₀ base outer g'
  inK : KF.In g'
  top : Top p loose mean mg mb g'
  dicts : KtsDicts (outer.filterMap (·.frame)) g'
  exc : ∃ oe dA od, News g' L h' ((e, oe) :: (dA, od) :: news) ∧ oe.cls = .ref C ∧ oe.dict = some dA ∧ (∃ vs, oe.data = .fields vs ∧ vs[2]? = some ctx) ∧ LCg.NsObj od (fun y => if y = ("told" : Str) then some v else none)
theorem keep_step {α : Type} {M : Model} {A : Around} {t : Sem α} (hc : Calm t) {e : Addr} {d : Option Addr} {c : Value} {s : Shared} {Q : α → Shared → Prop} {E : Value → Shared → Prop} (P : α → Shared → Prop)
    (h : wpAny M A t P (fun _ _ => False) s) (k : KeepsE e d c s.heap) (hq : ∀ a s', P a s' → KeepsE e d c s'.heap → Q a s') : wpAny M A t Q E s :=
  wpAny_mono (wpAny_calm hc h k) (fun a s' q => hq a s' q.1 q.2) fun _ _ q => q.1.elim
theorem caught_news {t dA : Addr} {od : Obj} {h₆ g₆ B : Heap} (hfl₆ : Heap.FlyingW B (envOf name scope L a cd :: outer) e (.ref C) (.ref t) h₆) (F : Fr g L G m) (K : Below A₀ base outer g)
    (hBG : ∀ b o, G.get? b = some o → b ∉ (envOf name scope L a cd :: outer).filterMap (·.frame) → B.get? b = some o) (T₆ : KtsTurn (outer.filterMap (·.frame)) g g₆) (F₆ : Fr g₆ L h₆ m) (sm : G.UpToSlots h₆)
    (hl : ∀ q ∈ (dA, od) :: news, B.get? q.1 = some q.2 ∧ G.get? q.1 = none ∧ base.get? q.1 = none) (hL : B.get? L = none) (hk : KeepsE e (some dA) ctx h₆) (htold : LCg.NsObj od (fun y => if y = ("told" : Str) then some v else none)) :
    ∃ oe dA od, News g₆ L h₆ ((e, oe) :: (dA, od) :: news) ∧ oe.cls = .ref C ∧ oe.dict = some dA ∧ (∃ vs, oe.data = .fields vs ∧ vs[2]? = some ctx) ∧ LCg.NsObj od (fun y => if y = ("told" : Str) then some v else none) := by
  obtain ⟨oe, ws, hoe, hoec, hoed, hoe0⟩ := hfl₆.first
  have ne₆ : g₆.get? e = none := T₆.none_ _ (kts_fresh F hBG hfl₆.2.1 fun o ho m => by
    obtain ⟨_, o', ho', hd⟩ := K.frames.mem m
    rw [ho] at ho'
    cases ho'
    obtain ⟨sl, hs⟩ := sm _ _ (F.keep _ _ ho) hd
    rw [hoe] at hs
    cases hs
    exact hd _ hoed)
  have N₆ := News.more F₆ News.nil hoe (fun es n q => by rw [hoed] at q; cases q) ne₆
  obtain ⟨o', vs', ho', hd', hv', h2'⟩ := hk
  rw [hoe] at ho'
  cases ho'
  refine ⟨oe, dA, od, fun q hq => ?_, hoec, hd', ⟨vs', hv', h2'⟩, htold⟩
  rcases List.mem_cons.mp hq with rfl | hq
  · exact N₆ _ (.head _)
  · have hq := hl q hq
    exact ⟨hfl₆.1 _ _ hq.1, (fun z => by have := hq.1; rw [z, hL] at this; cases this), T₆.none_ _ (kts_none F.keep hq.2.1)⟩
theorem caught_X (R : RaisedX base G (envOf name scope L a cd :: outer) e C v ctx news s'.heap) (F : Fr g L G m) (K : Below A₀ base outer g) (hsm : G.UpToSlots s'.heap) (XB : KF.In base) (TB : Top p loose mean mg mb base)
    (D : KtsDicts (outer.filterMap (·.frame)) g) (T0 : KtsTurn (outer.filterMap (·.frame)) g₀ g)
    (ex : nsIn KF mainGlobals x = some (some (.ref C))) (q : ktsIn KF C "BaseException" = true)
    (k : ∀ h' g', Fr g' L h' m → CaughtX A₀ base outer KF p loose mean mg mb g₀ g' L h' e C v ctx news →
      wpAny (model prog w) ((A₀.deeper (envOf name scope L a cd)).mark (some (.ref e))) (execs (b₀ :: suite) (envOf name scope L a cd)) Q E { s' with heap := h' })
    (hk : scope.kind = .function := by rfl) (hx : (envOf name scope L a cd).kindOf x = some .globalImplicit := by rfl) (hd : (x == ("__debug__" : Str)) = false := by decide)
    (hE : PassesOwnAt (model prog w) ((A₀.deeper (envOf name scope L a cd)).mark (some (.ref e))) (A₀.deeper (envOf name scope L a cd)) (envOf name scope L a cd) E := by passes_own) :
    wpAny (model prog w) (A₀.deeper (envOf name scope L a cd)) (noteFrame (.ref e) (envOf name scope L a cd))
      (fun _ s₂ => wpAny (model prog w) (A₀.deeper (envOf name scope L a cd)) (setFlight (.ref e) none) (fun _ s₃ =>
        wpAny (model prog w) (A₀.deeper (envOf name scope L a cd)) (handleBy (.ref e) (envOf name scope L a cd) (.ExceptHandler (some (.Name x np)) none (b₀ :: suite) pos :: rest)) Q E s₃) E s₂) E s' := by
  obtain ⟨t, vs, dA, od, ⟨⟨B, hB, hBG, hl, hfl, hnew⟩, htup⟩, hkeep, htold⟩ := R
  have hL : B.get? L = none := by
    obtain ⟨_, ⟨L', _, hf, hn', _⟩, _⟩ := hfl.2.2.1
    obtain rfl : L = L' := Option.some.inj hf
    exact hn'
  refine keep_step (calm_note _ _) (fun _ s₂ => ∃ h', s₂ = { s' with heap := h' } ∧ Heap.HeldW B (envOf name scope L a cd :: outer) e (.ref C) (.ref t) L h' ∧ s'.heap.UpToSlots h') (wpAny_looks_onW (Around.frames_deeper K.stack) rfl hfl fun h₄ a1 a2 => ⟨h₄, rfl, a1, a2⟩) hkeep ?_
  rintro _ _ ⟨h₄, rfl, hheld₄, hsm₄⟩ hk₄
  refine keep_step (calm_setFlight _ _) (fun _ s₂ => ∃ h', s₂ = { s' with heap := h' } ∧ Heap.FlyingW B (envOf name scope L a cd :: outer) e (.ref C) (.ref t) h' ∧ h₄.UpToSlots h') (wpAny_landsW hheld₄ fun h₅ a1 a2 => ⟨h₅, rfl, a1, a2⟩) hk₄ ?_
  rintro _ _ ⟨h₅, rfl, hheld, hsm₅'⟩ hk₅
  have hsm₅ := hsm₄.trans hsm₅'
  obtain ⟨g₅, T₅, F₅, K₅⟩ := kts_ground K F hBG hheld.1 (hsm.trans hsm₅)
  have X₅ : KF.In g₅ := XB.keeps K₅.stays
  have P₅ : TopRead p loose mg mb g₅ := topRead_of (TB.keeps K₅.stays)
  obtain ⟨ob, hob, hobc⟩ := hheld.there
  obtain ⟨nm, q', N, bs, bm, hdct, sn, sub, ab, col, dd, k0, k1, k2, k3, k5, newId, hC, hbase, hbT⟩ := kts_cls X₅ q
  have hC₅ := F₅.keep _ _ hC
  refine wpAny_handleBy_cons (codeAny_handlers_test (name_K F₅ X₅ P₅ ex ?_ hk hx hd)) (by intro q; cases q)
  refine wpAny_excMatches_sub_self hC₅ hob hobc hbase (codeAny_handlers_suite ?_)
  refine keep_step (calm_setFlight _ _) (fun _ s₂ => ∃ h', s₂ = { s' with heap := h' } ∧ Heap.FlyingW B (envOf name scope L a cd :: outer) e (.ref C) (.ref t) h' ∧ h₅.UpToSlots h') (lands_againW hheld fun h₆ a1 a2 => ⟨h₆, rfl, a1, a2⟩) hk₅ ?_
  rintro _ _ ⟨h₆, rfl, hfl₆, hsm₆⟩ hk₆
  obtain ⟨g₆, T₆, F₆, K₆⟩ := kts_ground K F hBG hfl₆.1 ((hsm.trans hsm₅).trans hsm₆)
  exact wpAny_passesOwnAt hE (k h₆ g₆ F₆ ⟨T0.trans T₆, K₆, XB.keeps K₆.stays, TB.keeps K₆.stays, D.turn T₆, caught_news hfl₆ F K hBG T₆ F₆ ((hsm.trans hsm₅).trans hsm₆) hl hL hk₆ htold⟩)
end
end Mine
namespace Mine
theorem rules20 : True := by
  w_top off
  k_with_none
  k_with "execs cons" => (k_here; (try k_gentoks); (with_reducible refine execs_hide ?_); intro «Q✝» «k✝»; try dsimp only)
  trivial
section
variable {prog : Program} {w : World} {A₀ : Around} {E : Value → Shared → Prop} {s' : Shared} {base g g₀ G : Heap} {outer : List Env} {L a e C : Addr} {m : Str → Option Value} {name : Str} {scope : Scope} {cd : Value}
  {n : Str} {b₀ : Stmt} {suite : List Stmt} {pos np : Pos} {rest : List ExceptHandler} {Q : Flow → Shared → Prop} {KF : Frag}
  {p : Program} {loose : List Str} {mean : ExcName → Option Value} {mg mb : Str → Option Value} {x : Str} {v ctx : Value} {news : List (Addr × Obj)}
theorem caught_XB (R : RaisedX base G (envOf name scope L a cd :: outer) e C v ctx news s'.heap) (F : Fr g L G m) (K : Below A₀ base outer g) (hsm : G.UpToSlots s'.heap) (XB : KF.In base) (TB : Top p loose mean mg mb base)
    (D : KtsDicts (outer.filterMap (·.frame)) g) (T0 : KtsTurn (outer.filterMap (·.frame)) g₀ g)
    (ex : nsIn KF mainGlobals x = some (some (.ref C))) (q : ktsIn KF C "BaseException" = true)
    (k : ∀ h' g' tk, Fr g' L h' (fun y => if y = n then some (.ref e) else m y) → CaughtX A₀ base outer KF p loose mean mg mb g₀ g' L h' e C v ctx news →
      wpAny (model prog w) ((A₀.deeper (envOf name scope L a cd)).mark (some (.ref e))) (execs (b₀ :: suite) (envOf name scope L a cd))
        (fun f s₄ => wpAny (model prog w) (A₀.deeper (envOf name scope L a cd)) (do bindName (envOf name scope L a cd) n .none; unbindBehindTheSuite (envOf name scope L a cd) n pos) (fun _ s₅ => Q f s₅) E s₄)
        (AsSuiteRaised (model prog w) ((A₀.deeper (envOf name scope L a cd)).mark (some (.ref e))) (envOf name scope L a cd) n pos (notedBy (model prog w) ((A₀.deeper (envOf name scope L a cd)).mark (some (.ref e))) (envOf name scope L a cd) (cameBackBy (model prog w) (A₀.deeper (envOf name scope L a cd)) (envOf name scope L a cd) E)))
        { s' with heap := h', toks := tk })
    (hk : scope.kind = .function := by rfl) (hlo : (envOf name scope L a cd).kindOf n = some .local := by rfl) (hx : (envOf name scope L a cd).kindOf x = some .globalImplicit := by rfl) (hd : (x == ("__debug__" : Str)) = false := by decide) :
    wpAny (model prog w) (A₀.deeper (envOf name scope L a cd)) (noteFrame (.ref e) (envOf name scope L a cd))
      (fun _ s₂ => wpAny (model prog w) (A₀.deeper (envOf name scope L a cd)) (setFlight (.ref e) none) (fun _ s₃ =>
        wpAny (model prog w) (A₀.deeper (envOf name scope L a cd)) (handleBy (.ref e) (envOf name scope L a cd) (.ExceptHandler (some (.Name x np)) (some n) (b₀ :: suite) pos :: rest)) Q E s₃) E s₂) E s' := by
  obtain ⟨t, vs, dA, od, ⟨⟨B, hB, hBG, hl, hfl, hnew⟩, htup⟩, hkeep, htold⟩ := R
  have hL : B.get? L = none := by
    obtain ⟨_, ⟨L', _, hf, hn', _⟩, _⟩ := hfl.2.2.1
    obtain rfl : L = L' := Option.some.inj hf
    exact hn'
  refine keep_step (calm_note _ _) (fun _ s₂ => ∃ h', s₂ = { s' with heap := h' } ∧ Heap.HeldW B (envOf name scope L a cd :: outer) e (.ref C) (.ref t) L h' ∧ s'.heap.UpToSlots h') (wpAny_looks_onW (Around.frames_deeper K.stack) rfl hfl fun h₄ a1 a2 => ⟨h₄, rfl, a1, a2⟩) hkeep ?_
  rintro _ _ ⟨h₄, rfl, hheld₄, hsm₄⟩ hk₄
  refine keep_step (calm_setFlight _ _) (fun _ s₂ => ∃ h', s₂ = { s' with heap := h' } ∧ Heap.FlyingW B (envOf name scope L a cd :: outer) e (.ref C) (.ref t) h' ∧ h₄.UpToSlots h') (wpAny_landsW hheld₄ fun h₅ a1 a2 => ⟨h₅, rfl, a1, a2⟩) hk₄ ?_
  rintro _ _ ⟨h₅, rfl, hheld, hsm₅'⟩ hk₅
  have hsm₅ := hsm₄.trans hsm₅'
  obtain ⟨g₅, T₅, F₅, K₅⟩ := kts_ground K F hBG hheld.1 (hsm.trans hsm₅)
  have X₅ : KF.In g₅ := XB.keeps K₅.stays
  have P₅ : TopRead p loose mg mb g₅ := topRead_of (TB.keeps K₅.stays)
  obtain ⟨ob, hob, hobc⟩ := hheld.there
  obtain ⟨nm, q', N, bs, bm, hdct, sn, sub, ab, col, dd, k0, k1, k2, k3, k5, newId, hC, hbase, hbT⟩ := kts_cls X₅ q
  have hC₅ := F₅.keep _ _ hC
  refine wpAny_handleBy_cons (codeAny_handlers_test (name_K F₅ X₅ P₅ ex ?_ hk hx hd)) (by intro q; cases q)
  refine wpAny_excMatches_sub_self hC₅ hob hobc hbase (codeAny_handlers_suite_as ?_)
  refine keep_step (calm_setFlight _ _) (fun _ s₂ => ∃ h', s₂ = { s' with heap := h' } ∧ Heap.FlyingW B (envOf name scope L a cd :: outer) e (.ref C) (.ref t) h' ∧ h₅.UpToSlots h') (lands_againW hheld fun h₆ a1 a2 => ⟨h₆, rfl, a1, a2⟩) hk₅ ?_
  rintro _ _ ⟨h₆, rfl, hfl₆, hsm₆⟩ hk₆
  obtain ⟨g₆, T₆, F₆, K₆⟩ := kts_ground K F hBG hfl₆.1 ((hsm.trans hsm₅).trans hsm₆)
  obtain ⟨oe, dA', od', N₆, c1, c2, c3, c4⟩ := caught_news hfl₆ F K hBG T₆ F₆ ((hsm.trans hsm₅).trans hsm₆) hl hL hk₆ htold
  refine stN F₆ (news := (e, oe) :: (dA', od') :: news) N₆ (fun h₇ F₇ N₇ => ?_) hk hlo
  exact k h₇ g₆ _ F₇ ⟨T0.trans T₆, K₆, XB.keeps K₆.stays, TB.keeps K₆.stays, D.turn T₆, oe, dA', od', N₇, c1, c2, c3, c4⟩
/-- back in the frame that called: its ground, turned -/
theorem turn_back {g₂ h₀ : Heap} {cl : List (Str × Addr)} {cn : Str} {cs : Scope} {ccd : Value} (B : Below A₀ base outer h₀) (F : Fr h₀ L g m) (T : KtsTurn ((envX cn cs L a ccd cl :: outer).filterMap (·.frame)) g g₂) :
    ∃ h₀', KtsTurn (outer.filterMap (·.frame)) h₀ h₀' ∧ Fr h₀' L g₂ m ∧ Below A₀ base outer h₀' := by
  have mem : ∀ b, b ∈ (envX cn cs L a ccd cl :: outer).filterMap (·.frame) → b = L ∨ b ∈ outer.filterMap (·.frame) := fun b hm => by
    obtain ⟨env, he, hf⟩ := List.mem_filterMap.mp hm
    rcases List.mem_cons.mp he with rfl | he
    · exact .inl (Option.some.inj hf).symm
    · exact .inr (List.mem_filterMap.mpr ⟨env, he, hf⟩)
  have nL₀ : h₀.get? L = none := kts_self F
  obtain ⟨T₁, S₁⟩ := kts_turn_at (h := g₂) (fs := outer.filterMap (·.frame)) (g := h₀)
    (fun b hb => by
      obtain ⟨_, o, ho', _⟩ := B.frames.mem hb
      exact ⟨o, ho'⟩)
    (fun b o e nmem => T.other b o (F.keep b o e) (fun q => by
      rcases mem b q with z | z
      · rw [z, nL₀] at e
        cases e
      · exact nmem z))
    (fun b o e hm => T.up (F.keep b o e))
  obtain ⟨oL, es, ep, hL, hLd, hLk, hLf⟩ := F.ns
  obtain ⟨sl, hs⟩ := T.up hL
  refine ⟨_, T₁, ⟨⟨_, es, ep, hs, hLd, hLk, hLf⟩, S₁, by rw [T₁.size]; exact F.above⟩, ⟨B.stack, fun b o e => T₁.other b o (B.stays b o e) (fun hm => by
    rw [(B.frames.mem hm).1] at e
    cases e), B.frames.of_keeps fun b o e _ => by
    obtain ⟨sl', hs'⟩ := T₁.up e
    exact ⟨_, hs', rfl⟩⟩⟩
theorem dicts_push {h₀ : Heap} {cl : List (Str × Addr)} {cn : Str} {cs : Scope} {ccd : Value} (D : KtsDicts (outer.filterMap (·.frame)) h₀) (F : Fr h₀ L g m) : KtsDicts ((envX cn cs L a ccd cl :: outer).filterMap (·.frame)) g := fun b hm => by
  obtain ⟨env, he, hf⟩ := List.mem_filterMap.mp hm
  rcases List.mem_cons.mp he with rfl | he
  · obtain ⟨oL, es, ep, hL, hLd, _⟩ := F.ns
    rw [← Option.some.inj hf]
    exact ⟨oL, es, ep, hL, hLd⟩
  · obtain ⟨o, es, n', ho, hd⟩ := D b (List.mem_filterMap.mpr ⟨env, he, hf⟩)
    exact ⟨o, es, n', F.keep _ _ ho, hd⟩
end
end Mine
namespace Mine
theorem rules21 : True := by
  w_top off
  k_with_none
  k_with "execs cons" => (k_here; (try k_gentoks); (with_reducible refine execs_hide ?_); intro «Q✝» «k✝»; try dsimp only)
  trivial
theorem entry_unchain : entryFor table "proto.unchain" = some Builtin.«proto.unchain» := entryFor_of_tree (by kernel_rfl)
section
variable {w : World} {A : Around} {E : Value → Shared → Prop} {s : Shared} {h : Heap} {C e e1 : Addr} {v : Value} {dA : Addr} {od : Obj}
theorem MadeX.chain {h' : Heap} (M : MadeX h h' e C v .none dA od) (x : Value) : MadeX h (h'.update e (Obj.mapFields (·.setIfInBounds 2 x))) e C v x dA od := by
  obtain ⟨t, he, htn, hte, hdt, ht⟩ := M.there
  refine ⟨fun b o q => ?_, M.new, ⟨t, ?_, htn, hte, hdt, ?_⟩, M.dnew, M.dne, ?_, M.told⟩
  · rw [Heap.get?_update_other _ _ (fun z => by rw [← z, M.new] at q; cases q)]
    exact M.keeps b o q
  · exact Heap.get?_update_self _ he rfl
  · rw [Heap.get?_update_other _ _ (Ne.symm hte)]; exact ht
  · rw [Heap.get?_update_other _ _ (Ne.symm M.dne)]; exact M.dget
theorem raiseNew_some {α : Type} {Q : α → Shared → Prop} (hh : A.handled = some (.ref e1)) (hne : e1 ≠ e) (M : MadeX h s.heap e C v .none dA od) {o1 : Obj} {vs : Array Value} (h1 : h.get? e1 = some o1) (hd : o1.data = .fields vs) (h2 : vs[2]? = some .none)
    (k : ∀ h', MadeX h h' e C v (.ref e1) dA od → E (.ref e) { s with heap := h' }) : wpAny (model PG w) A (raiseNew (.ref e) : Sem α) Q E s := by
  obtain ⟨t, he, htn, hte, hdt, ht⟩ := M.there
  unfold raiseNew
  refine wpAny_bind (wpAny_handled ?_)
  rw [hh]
  show wpAny _ _ (if (Value.ref e1 != Value.ref e) = true then _ else _) _ _ _
  rw [if_pos (by simp [hne])]
  refine wpAny_bind (wpAny_holding (wpAny_runValue (codeAny_builtin entry_unchain ?_)))
  · unfold Builtin.«proto.unchain»
    refine wpAny_bind (wpAny_field (M.keeps _ _ h1) hd h2 ?_)
    rw [if_pos (show (Value.none == Value.none) = true from rfl)]
    refine wpAny_bind (wpAny_pure ?_)
    refine wpAny_pure ?_
    refine wpAny_bind ?_
    unfold updateField
    refine wpAny_bind (wpAny_load he ?_)
    refine wpAny_ite (KBc.ite_yes (by simp) (wpAny_update he ?_))
    exact wpAny_throw (k _ (M.chain (.ref e1)))
theorem raiseStmt_X {env : Env} {x : Sem Value} {Q : Flow → Shared → Prop} (XC : ExC w C)
    (hx : wpAny (model PG w) A x (fun r s₁ => ∃ (v : Value) (e : Addr) (h : Heap) (dA : Addr) (od : Obj), r = .ref e ∧ (KK w).In s₁.heap ∧ MadeX h s₁.heap e C v .none dA od ∧ (
      (A.handled = none ∧ E (.ref e) s₁) ∨ (∃ e1 o1 vs, A.handled = some (.ref e1) ∧ e1 ≠ e ∧ h.get? e1 = some o1 ∧ o1.data = .fields vs ∧ vs[2]? = some .none ∧ ∀ h', MadeX h h' e C v (.ref e1) dA od → E (.ref e) { s₁ with heap := h' }))) E s) :
    wpAny (model PG w) A (raiseStmt env (some x) none) Q E s := by
  obtain ⟨nm, q, N, bs, sn, sub, ab, col, dd, k0, k1, k2, k3, k5, hl⟩ := id XC.cls
  have hcB : (Value.ref C :: exMro).contains (.type "BaseException") = true := by simp
  unfold raiseStmt
  refine wpAny_bind (wpAny_mono hx (fun v' s₁ h₁ => ?_) fun _ _ x => x)
  obtain ⟨v, e, h, dA, od, rfl, X, M, rest⟩ := h₁
  have hC := X _ _ hl
  obtain ⟨t, he, htn, hte, hdt, ht⟩ := id M.there
  obtain ⟨hp, g, d, tk, os⟩ := s₁
  repeat (first | with_reducible refine wpAny_loadPart_at he ?_ | with_reducible refine wpAny_loadPart_at hC ?_ | (with_reducible refine wpAny_isSubtype_exc hC ?_; rw [hcB]) | wp_step)
  rcases rest with ⟨hh, hE⟩ | ⟨e1, o1, vs, hh, hne, h1, hd, h2, k⟩
  · exact wpAny_raiseNew_none hh hE
  · exact raiseNew_some hh hne M h1 hd h2 k
end
end Mine
namespace Mine
theorem rules22 : True := by
  w_top off
  k_with_none
  k_with "execs cons" => (k_here; (try k_gentoks); (with_reducible refine execs_hide ?_); intro «Q✝» «k✝»; try dsimp only)
  trivial
section
variable {w : World} {A : Around} {E : Value → Shared → Prop} {s : Shared} {env : Env} {C : Addr}
theorem weight_tc (C : Addr) (l : List Value) : Code.weight (.builtin "type.__call__" ⟨.ref C :: l, []⟩) = 1 := by
  unfold Code.weight
  simp [Code.isCreation, Code.isGuard, Code.isCaller, guardIds, Code.frames, Code.isFrame]
theorem Raise_X (hcc : C = 57 ∨ C = 45) {x : Str} {np cpos pos : Pos} {args : List Expr} {Q : Flow → Shared → Prop} (hplain : (backTo cpos (starEach args env)).any (·.1) = false) (hroom : A.depth + 1 < recursionLimit)
    (h : wpAny (model PySem.Challenge.rw_nt0003_01.prog w) A (eval (.Name x np) env) (fun f s₁ => f = .ref C ∧ wpAny (model PySem.Challenge.rw_nt0003_01.prog w) A (evalArgs (.ref C) true (backTo cpos (starEach args env)) [])
      (fun a s₂ => ∃ v, a.kw = [] ∧ a.pos = [v] ∧ (hd.heap_39 w.params).In s₂.heap ∧ s₂.heap.NoLimit ∧ (
        (A.handled = none ∧ ∀ e h' tk dA od, MadeX s₂.heap h' e C v .none dA od → E (.ref e) { s₂ with heap := h', toks := tk }) ∨
        (∃ e1 o1 vs, A.handled = some (.ref e1) ∧ s₂.heap.get? e1 = some o1 ∧ o1.data = .fields vs ∧ vs[2]? = some .none ∧ ∀ e h' tk dA od, MadeX s₂.heap h' e C v (.ref e1) dA od → E (.ref e) { s₂ with heap := h', toks := tk }))) E s₁) E s) :
    wpAny (model PySem.Challenge.rw_nt0003_01.prog w) A (exec (.Raise (some (.Call (.Name x np) args [] cpos)) none pos) env) Q E s := by
  have XC := exc_of w hcc
  obtain ⟨nm, q, N, bs, sn, sub, ab, col, dd, k0, k1, k2, k3, k5, hl⟩ := id XC.cls
  rw [arm_exec_Raise]
  first
    | refine wpAny_bind (wpAny_standAt (raiseStmt_X XC (wpAny_bind (wpAny_mono (wpAny_Call_ofName (wpAny_mono h (fun f s₁ h₁ => ?_) fun _ _ x => x)) (fun v s₃ h₃ => wpAny_bind (wpAny_standAt (wpAny_pure h₃))) fun _ _ x => x))))
    | (simp only [evalOpt, Option.map]; refine wpAny_bind (wpAny_standAt (raiseStmt_X XC (wpAny_bind (wpAny_mono (wpAny_Call_ofName (wpAny_mono h (fun f s₁ h₁ => ?_) fun _ _ x => x)) (fun v s₃ h₃ => wpAny_bind (wpAny_standAt (wpAny_pure h₃))) fun _ _ x => x)))))
    | (refine wpAny_bind (wpAny_standAt (raiseStmt_X XC ?_)); refine wpAny_bind (wpAny_mono (wpAny_Call_ofName (wpAny_mono h (fun f s₁ h₁ => ?_) fun _ _ x => x)) (fun v s₃ h₃ => wpAny_bind (wpAny_standAt (wpAny_pure h₃))) fun _ _ x => x))
  obtain ⟨rfl, h₁⟩ := h₁
  unfold callWith
  refine wpAny_bind (wpAny_holding (wpAny_mono h₁ (fun a s₂ h₂ => wpAny_bind (wpAny_standAt ?_)) fun _ _ x => x))
  obtain ⟨apos, akw⟩ := a
  obtain ⟨v, hkw, hpos, X, NL, h₂⟩ := h₂
  obtain rfl : akw = [] := hkw
  obtain rfl : apos = [v] := hpos
  have hC := X _ _ hl
  obtain ⟨hp, g, d, tk, os⟩ := s₂
  simp only [hplain]
  refine wpAny_bind (wpAny_keeperOf_exc hC ?_)
  obtain ⟨fd, fod, fosl, hfl, -⟩ := fd29 w
  refine wpAny_bind (exc_call XC X (X _ _ hfl) rfl (fun h' e hm => ?_) (by show (1 : Nat) ≤ sizeLine; decide))
  obtain ⟨t, ht, htn, htt⟩ := hm.there
  have hroom' : (A.under (.builtin "type.__call__" ⟨[.ref C, v], []⟩)).depth < recursionLimit := by
    show A.depth + Code.weight _ < _
    rw [weight_tc]; exact hroom
  refine exc_init (s := ⟨h', g, d, tk, os⟩) hcc (X.keeps hm.keeps) (NL.keeps hm.keeps) hroom' ht rfl rfl ⟨_, rfl⟩ fun h'' tk' dA od a1 a2 a3 a4 a5 a6 => ⟨rfl, wpAny_bind (wpAny_holding (wpAny_point (wpAny_pure ?_)))⟩
  have hne : ∀ b o, hp.get? b = some o → b ≠ e := fun b o q z => by rw [z, hm.new] at q; cases q
  have hte : t ≠ e := fun z => by rw [z, ht] at htt; cases htt
  have none0 : ∀ b, h'.get? b = none → hp.get? b = none := fun b q => by
    cases q' : hp.get? b with
    | none => rfl
    | some o => have := hm.keeps b o q'; rw [q] at this; cases this
  have MX : MadeX hp h'' e C v .none dA od := ⟨fun b o q => a6 b o (hne b o q) (hm.keeps b o q), hm.new, ⟨t, a3, htn, hte, (fun z => by rw [z, htt] at a1; cases a1), a6 t _ hte htt⟩, none0 _ a1, a2, a4, a5⟩
  refine ⟨v, e, hp, dA, od, rfl, X.keeps MX.keeps, MX, ?_⟩
  rcases h₂ with ⟨hh, k⟩ | ⟨e1, o1, vs, hh, h1, hd1, h21, k⟩
  · exact .inl ⟨hh, k e h'' tk' dA od MX⟩
  · exact .inr ⟨e1, o1, vs, hh, hne _ _ h1, h1, hd1, h21, fun h3 M3 => k e h3 tk' dA od M3⟩
/-- all that is left to show once the arguments of the raised class stand -/
def RaiseAt (w : World) (A : Around) (C : Addr) (E : Value → Shared → Prop) (vs : List Value) (s₂ : Shared) : Prop :=
  ∃ v, vs = [v] ∧ (hd.heap_39 w.params).In s₂.heap ∧ s₂.heap.NoLimit ∧ (
        (A.handled = none ∧ ∀ e h' tk dA od, MadeX s₂.heap h' e C v .none dA od → E (.ref e) { s₂ with heap := h', toks := tk }) ∨
        (∃ e1 o1 vs, A.handled = some (.ref e1) ∧ s₂.heap.get? e1 = some o1 ∧ o1.data = .fields vs ∧ vs[2]? = some .none ∧ ∀ e h' tk dA od, MadeX s₂.heap h' e C v (.ref e1) dA od → E (.ref e) { s₂ with heap := h', toks := tk }))
theorem Raise_Y (hcc : C = 57 ∨ C = 45) {x : Str} {np cpos pos : Pos} {e₀ : Expr} {Q : Flow → Shared → Prop} (he : starEach [e₀] env = (false, eval e₀ env) :: starEach [] env) (hroom : A.depth + 1 < recursionLimit)
    (h : wpAny (model PySem.Challenge.rw_nt0003_01.prog w) A (eval (.Name x np) env) (fun f s₁ => f = .ref C ∧ wpAny (model PySem.Challenge.rw_nt0003_01.prog w) A (spliced (backTo cpos (starEach [e₀] env)))
      (RaiseAt w A C E) E s₁) E s) :
    wpAny (model PySem.Challenge.rw_nt0003_01.prog w) A (exec (.Raise (some (.Call (.Name x np) [e₀] [] cpos)) none pos) env) Q E s := by
  refine Raise_X hcc (by rw [he]; rfl) hroom (wpAny_mono h (fun f s₁ h₁ => ⟨h₁.1, ?_⟩) fun _ _ y => y)
  have h₁ := h₁.2
  rw [he] at h₁ ⊢
  exact Calls.evalArgs_plain (wpAny_mono h₁ (fun vs s₂ h₂ => by obtain ⟨v, e, r⟩ := h₂; exact ⟨v, rfl, e, r⟩) fun _ _ y => y)
end
end Mine
namespace Mine
theorem rules24 : True := by
  w_top off
  k_with_none
  k_with "execs cons" => (k_here; (try k_gentoks); (with_reducible refine execs_hide ?_); intro «Q✝» «k✝»; try dsimp only)
  trivial
def hexD (x : Int) : Option Int := if 48 ≤ x ∧ x ≤ 57 then some (x - 48) else if 65 ≤ x ∧ x ≤ 70 then some (x - 55) else if 97 ≤ x ∧ x ≤ 102 then some (x - 87) else none
def hexAcc : List Int → Int → Option Int
  | [], n => some n
  | x :: r, n => match hexD x with
    | none => none
    | some d => hexAcc r (16 * n + d)
def hexCode (l : List Int) : Option Int := if l.length = 0 ∨ 6 < l.length then none else match hexAcc l 0 with
  | some n => if 1114111 < n then none else some n
  | none => none
theorem hexAcc_append : ∀ (a b : List Int) (n : Int), hexAcc (a ++ b) n = match hexAcc a n with | none => none | some k => hexAcc b k
  | [], b, n => rfl
  | x :: a, b, n => by
    show (match hexD x with | none => none | some d => hexAcc (a ++ b) (16 * n + d)) = match (match hexD x with | none => none | some d => hexAcc a (16 * n + d)) with | none => none | some k => hexAcc b k
    cases hexD x with
    | none => rfl
    | some d => exact hexAcc_append a b _
/-- an exception leaves the frame: what its caller finds -/
def ExcOut (A₀ : Around) (base : Heap) (outer : List Env) (h₀ : Heap) (L : Addr) (m : Str → Option Value) (env : Env) (e C : Addr) (v ctx : Value) (news : List (Addr × Obj)) (h' : Heap) : Prop :=
  ∃ h₀' G, KtsTurn (outer.filterMap (·.frame)) h₀ h₀' ∧ Fr h₀' L G m ∧ Below A₀ base outer h₀' ∧ RaisedX base G (env :: outer) e C v ctx news h' ∧ G.UpToSlots h'
section
variable {prog : Program} {w : World} {A : Around} {E : Value → Shared → Prop} {s : Shared} {env : Env} {h₀ : Heap} {x : Str} {body : List Stmt} {Q : Flow → Shared → Prop}
theorem bytes_loop {b : Array UInt8} {t : Tok} {m₀ : Str → Option Value} {news : List (Addr × Obj)} (J : Nat → (Str → Option Value) → List (Addr × Obj) → Prop)
    (hh : A.handled = none) (F : Fr h₀ env.locals s.heap m₀) (N : News h₀ env.locals s.heap news) (hj : J 0 m₀ news)
    (turn : ∀ i (c : UInt8) u m₁ nx h tk own, b[i]? = some c → OwnOff own (nx.map (·.1)) → J i m₁ nx → Fr h₀ env.locals h (fun y => if y = x then some (.int (c.toNat : Int) u) else m₁ y) → News h₀ env.locals h (nx ++ own) →
      wpAny (model prog w) A (execs body env) (InvPostG h₀ env.locals (J (i + 1)) own { s with heap := h, toks := tk } Q) E { s with heap := h, toks := tk })
    (done : ∀ m₁ nx h tk, J b.size m₁ nx → Fr h₀ env.locals h m₁ → News h₀ env.locals h nx → Q .next { s with heap := h, toks := tk }) :
    wpAny (model prog w) A (pyIter (.bytes b t)) (fun it s₂ => LoopAtV prog w A h₀ env x body Q E it s₂) E s := by
  have hnew := next_is_new F
  refine KBw.pyIter_bytes ?_
  refine kdr_loop J (KBw.walks (prog := prog) (w := w) hh s.heap.objs.size b t) (fun _ h => h) (fun _ h => h) ?_ ?_ ?_ ?_ ⟨_, Heap.get?_push_size _ rfl, rfl, rfl⟩ (F.push _) (fun p hp => ⟨Heap.get?_push_of_some _ (N p hp).1, (N p hp).2⟩) hj ?_ ?_
  · intro i h hst b' hb
    obtain ⟨o, ho, _⟩ := hst
    rw [List.mem_singleton.mp hb]
    exact ⟨o, ho⟩
  · intro hm
    exact absurd F.ns.lt ((List.mem_singleton.mp hm) ▸ Nat.lt_irrefl _)
  · intro b' hb
    rw [List.mem_singleton.mp hb]
    exact hnew
  · intro p hp hI
    exact absurd (Heap.lt_size (N p hp).1) ((List.mem_singleton.mp hI) ▸ Nat.lt_irrefl _)
  · intro i v m₁ nx h tk own hi hP hoff hJ F₁ N₁
    obtain ⟨c, u, hc, rfl⟩ := hP
    exact turn i c u m₁ nx h tk own hc hoff hJ F₁ N₁
  · intro m₁ nx h tk hJ F₁ N₁
    exact done m₁ nx h tk hJ F₁ N₁
theorem bytes_loop1 {b : Array UInt8} {t : Tok} {m₀ : Str → Option Value} {news : List (Addr × Obj)} (y : Str) (st : List Str) (P : Nat → Value → Prop)
    (hh : A.handled = none) (F : Fr h₀ env.locals s.heap m₀) (N : News h₀ env.locals s.heap news) {v0 : Value} (hv0 : m₀ y = some v0) (h0 : P 0 v0)
    (turn : ∀ i (c : UInt8) u vy (m₁ : Str → Option Value) h tk own, b[i]? = some c → OwnOff own (news.map (·.1)) → P i vy → Fr h₀ env.locals h (fun z => if z = x then some (.int (c.toNat : Int) u) else if z = y then some vy else if st.contains z then m₁ z else m₀ z) → News h₀ env.locals h (news ++ own) →
      wpAny (model prog w) A (execs body env) (InvPostG h₀ env.locals (fun m' nx => nx = news ∧ ∃ vy', P (i + 1) vy' ∧ m' y = some vy' ∧ ∀ z, z ≠ y → st.contains z = false → m' z = m₀ z) own { s with heap := h, toks := tk } Q) E { s with heap := h, toks := tk })
    (done : ∀ vy (m₁ : Str → Option Value) h tk, P b.size vy → Fr h₀ env.locals h (fun z => if z = y then some vy else if st.contains z then m₁ z else m₀ z) → News h₀ env.locals h news → Q .next { s with heap := h, toks := tk }) :
    wpAny (model prog w) A (pyIter (.bytes b t)) (fun it s₂ => LoopAtV prog w A h₀ env x body Q E it s₂) E s := by
  refine bytes_loop (fun i m₁ nx => nx = news ∧ ∃ vy, P i vy ∧ m₁ y = some vy ∧ ∀ z, z ≠ y → st.contains z = false → m₁ z = m₀ z) hh F N ⟨rfl, v0, h0, hv0, fun z _ _ => rfl⟩ ?_ ?_
  · rintro i c u m₁ nx h tk own hi hoff ⟨rfl, vy, hP, hm, hz⟩ F1 N1
    exact turn i c u vy m₁ h tk own hi hoff hP (fr_turn1 F1 hm hz) N1
  · rintro m₁ nx h tk ⟨rfl, vy, hP, hm, hz⟩ F1 N1
    exact done vy m₁ h tk hP (fr_done1 F1 hm hz) N1
end
section
variable {w : World} {loose : List Str} {mean : ExcName → Option Value} {mg mb : Str → Option Value} {dp un : Nat} {gd : Option (List Code)} {cn : Str} {cs : Scope} {a : Addr} {ccd : Value} {cl : List (Str × Addr)} {outer : List Env} {A₀ : Around} {base h₀ : Heap} {L : Addr} {m : Str → Option Value} {s : Shared} {Q E : Value → Shared → Prop} {news : List (Addr × Obj)}
set_option maxHeartbeats 8000000 in
theorem hexv_spec {x : Int} {tx : Tok} (B : Below A₀ base outer h₀) (F : Fr h₀ L s.heap m) (X : (hd.heap_39 w.params).In h₀) (N : News h₀ L s.heap news) (T : Top hd.view_39 loose mean mg mb h₀) (hk : cs.kind = .function)
    (hdp : dp + 20 < recursionLimit) (hu : un + 200 < cLine)
    (retn : ∀ h' tk, hexD x = none → Fr h₀ L h' m → News h₀ L h' news → Q .none { s with heap := h', toks := tk })
    (reti : ∀ n t h' tk, hexD x = some n → Fr h₀ L h' m → News h₀ L h' news → Q (.int n t) { s with heap := h', toks := tk }) :
    wpAny (model PySem.Challenge.rw_nt0003_01.prog w) (ktrTop dp un gd cn cs L a ccd cl outer) (call (.ref 66) [.int x tx]) Q E s := by
  revert X; k_fill; intro X
  refine wpAny_call ?_
  k_dflt cell_enter
  k_steps
  all_goals
    rename_i kF kN _ _
    first
      | exact reti _ _ _ _ (by unfold hexD; (repeat' split) <;> first | rfl | (exfalso; omega)) kF kN
      | exact retn _ _ (by unfold hexD; (repeat' split) <;> first | rfl | (exfalso; omega)) kF kN
theorem nolimit_of {g h : Heap} {L : Addr} {m : Str → Option Value} (F : Fr g L h m) (T : Top hd.view_39 loose mean mg mb g) : h.NoLimit := T.nolimit.keeps F.keep
local macro_rules | `(tactic| walk_at "call ref") => `(tactic| (k_here; (with_reducible show wpAny _ _ (call (Value.ref 66) [Value.int _ _]) _ _ _); k_dflt (refine' hexv_spec ?B ?F ?X ?N ?T ?k ?d ?u ?rn ?ri; (case B => k_asm); (case F => k_asm); (case X => k_asm); (case N => k_asm); (case T => k_asm); (case k => first | exact rfl | assumption); (case d => ktr_room); (case u => ktr_units)); (case' rn => intro h' tk' hD' F' N'); (case' ri => intro n' t' h' tk' hD' F' N')))
theorem rules23 : True := by
  k_with "exec Raise some none" => (k_here; (with_reducible show wpAny _ _ (exec (Stmt.Raise (some (Expr.Call (Expr.Name ("BadCode" : Str) _) _ _ _)) none _) _) _ _ _); k_dflt (refine' Raise_Y (C := 45) (Or.inr rfl) ?qqp ?qqr ?_; (case qqp => rfl); (case qqr => ktr_room)))
  k_with "exec Raise some none" => (k_here; (with_reducible show wpAny _ _ (exec (Stmt.Raise (some (Expr.Call (Expr.Name ("BadRow" : Str) _) _ _ _)) none _) _) _ _ _); k_dflt (refine' Raise_Y (C := 57) (Or.inl rfl) ?qqp ?qqr ?_; (case qqp => rfl); (case qqr => ktr_room)))
  trivial
set_option maxHeartbeats 8000000 in
theorem hex_spec {b : Array UInt8} {tb : Tok} (B : Below A₀ base outer h₀) (F : Fr h₀ L s.heap m) (X : (hd.heap_39 w.params).In h₀) (N : News h₀ L s.heap news) (T : Top hd.view_39 loose mean mg mb h₀) (hk : cs.kind = .function)
    (hdp : dp + 40 < recursionLimit) (hu : un + 400 < cLine) (hz : b.size ≤ 1000)
    (ret : ∀ n t h' tk, hexCode (KBw.bInts b) = some n → Fr h₀ L h' m → News h₀ L h' news → Q (.int n t) { s with heap := h', toks := tk })
    (rais : ∀ e h' tk, hexCode (KBw.bInts b) = none → ExcOut A₀ base outer h₀ L m (envX cn cs L a ccd cl) e 45 (.bytes b tb) .none news h' → E (.ref e) { s with heap := h', toks := tk }) :
    wpAny (model PySem.Challenge.rw_nt0003_01.prog w) (ktrTop dp un gd cn cs L a ccd cl outer) (call (.ref 73) [.bytes b tb]) Q E s := by
  revert X; k_fill; intro X
  have hlen := KBw.ints_length b
  refine wpAny_call ?_
  k_dflt cell_enter
  k_steps
  · rename Fr _ _ _ _ => lF
    rename News _ _ _ _ => lN
    rename_i hlo hhi _ _ _ _
    refine bytes_loop1 "number" ["octet", "digit"] (fun i vy => ∃ n tn, vy = .int n tn ∧ hexAcc ((KBw.bInts b).take i) 0 = some n) rfl lF lN rfl ⟨0, _, rfl, rfl⟩ ?turn ?done
    case turn =>
      rintro i c u _ m₁ h tk own hi hoff ⟨n, tn, rfl, hn⟩ F1 N1
      have hstep : ∀ _ : Nat, (KBw.bInts b).take (i + 1) = (KBw.bInts b).take i ++ [(c.toNat : Int)] := fun _ => by
        rw [List.take_add_one, KBw.ints_get hi]; rfl
      k_steps
      · rename Fr _ _ _ _ => F2
        rename News _ _ _ _ => N2
        rename hexD _ = some _ => hD
        refine InvEndG.intro F2 N2 ⟨rfl, _, ⟨_, _, rfl, ?_⟩, rfl, fun z hz hst => ?_⟩ hoff (fun p hp => List.mem_append_left _ hp) (fun p hp => List.mem_append_right _ hp)
        · rw [hstep 0, hexAcc_append, hn]
          show (match hexD _ with | none => none | some d => some (16 * n + d)) = _
          rw [hD]
        · have h1 : z ≠ ("octet" : Str) := fun e => by rw [e] at hst; revert hst; decide
          have h2 : z ≠ ("digit" : Str) := fun e => by rw [e] at hst; revert hst; decide
          show (if z = _ then _ else _) = _
          rw [if_neg hz, if_neg h2, if_neg h1, if_neg hz, hst]
          rfl
      · ((rename Fr _ _ _ _ => «lF✝»); (rename News _ _ _ _ => «lN✝»); refine ⟨_, rfl, by k_in, nolimit_of «lF✝» (by assumption), .inl ⟨rfl, fun _ _ _ _ _ «MX✝» => ?_⟩⟩; (show wpAny _ _ (leaving _ _) _ _ _); refine leave_raiseX (by assumption) «MX✝» «lF✝» «lN✝» (fun _ _ _ => ?_))
        rename_i R u'
        rename hexD _ = none => hD
        refine rais _ _ _ ?_ ⟨_, _, KtsTurn.refl, by assumption, by assumption, (R.sub (by intro p hp; first | exact hp | exact List.mem_append_left _ hp | (repeat (first | exact hp | refine List.mem_cons_of_mem _ ?_)))), u'⟩
        unfold hexCode
        have e1 : hexAcc [(c.toNat : Int)] n = none := by
          show (match hexD _ with | none => none | some d => some (16 * n + d)) = none
          rw [hD]
        have e2 : hexAcc ((KBw.bInts b).take (i + 1)) 0 = none := by
          rw [hstep 0, hexAcc_append, hn]; exact e1
        have e : hexAcc (KBw.bInts b) 0 = none := by
          rw [← List.take_append_drop (i + 1) (KBw.bInts b), hexAcc_append, e2]
        rw [e]
        split <;> rfl
    case done =>
      rintro _ m₁ h tk ⟨n, tn, rfl, hn⟩ F1 N1
      rw [List.take_of_length_le (by omega)] at hn
      have hn0 : ¬ ((KBw.bInts b).length = 0 ∨ 6 < (KBw.bInts b).length) := by omega
      k_steps
      · ((rename Fr _ _ _ _ => «lF✝»); (rename News _ _ _ _ => «lN✝»); refine ⟨_, rfl, by k_in, nolimit_of «lF✝» (by assumption), .inl ⟨rfl, fun _ _ _ _ _ «MX✝» => ?_⟩⟩; (show wpAny _ _ (leaving _ _) _ _ _); refine leave_raiseX (by assumption) «MX✝» «lF✝» «lN✝» (fun _ _ _ => ?_))
        rename_i R u'
        refine rais _ _ _ ?_ ⟨_, _, KtsTurn.refl, by assumption, by assumption, (R.sub (by intro p hp; first | exact hp | exact List.mem_append_left _ hp | (repeat (first | exact hp | refine List.mem_cons_of_mem _ ?_)))), u'⟩
        unfold hexCode
        rw [if_neg hn0, hn]
        exact if_pos (by assumption)
      · rename_i kF kN _ _
        refine ret _ _ _ _ ?_ kF kN
        unfold hexCode
        rw [if_neg hn0, hn]
        exact if_neg (by assumption)
  · ((rename Fr _ _ _ _ => «lF✝»); (rename News _ _ _ _ => «lN✝»); refine ⟨_, rfl, by k_in, nolimit_of «lF✝» (by assumption), .inl ⟨rfl, fun _ _ _ _ _ «MX✝» => ?_⟩⟩; (show wpAny _ _ (leaving _ _) _ _ _); refine leave_raiseX (by assumption) «MX✝» «lF✝» «lN✝» (fun _ _ _ => ?_))
    rename_i R u'
    exact rais _ _ _ (by unfold hexCode; rw [if_pos (by omega)]) ⟨_, _, KtsTurn.refl, by assumption, by assumption, (R.sub (by intro p hp; first | exact hp | exact List.mem_append_left _ hp | (repeat (first | exact hp | refine List.mem_cons_of_mem _ ?_)))), u'⟩
  · ((rename Fr _ _ _ _ => «lF✝»); (rename News _ _ _ _ => «lN✝»); refine ⟨_, rfl, by k_in, nolimit_of «lF✝» (by assumption), .inl ⟨rfl, fun _ _ _ _ _ «MX✝» => ?_⟩⟩; (show wpAny _ _ (leaving _ _) _ _ _); refine leave_raiseX (by assumption) «MX✝» «lF✝» «lN✝» (fun _ _ _ => ?_))
    rename_i R u'
    exact rais _ _ _ (by unfold hexCode; rw [if_pos (by omega)]) ⟨_, _, KtsTurn.refl, by assumption, by assumption, (R.sub (by intro p hp; first | exact hp | exact List.mem_append_left _ hp | (repeat (first | exact hp | refine List.mem_cons_of_mem _ ?_)))), u'⟩
end
end Mine
namespace Mine
local macro_rules | `(tactic| walk_at "mine pad") => `(tactic| fail)
theorem rules26 : True := by
  w_top off
  k_with_none
  k_with "execs cons" => (k_here; (try k_gentoks); (with_reducible refine execs_hide ?_); intro «Q✝» «k✝»; try dsimp only)
  trivial
def fieldCode (l : List Int) : Option Int := if l.length < 4 then none else hexCode l
section
variable {w : World} {loose : List Str} {mean : ExcName → Option Value} {mg mb : Str → Option Value} {dp un : Nat} {gd : Option (List Code)} {cn : Str} {cs : Scope} {a : Addr} {ccd : Value} {cl : List (Str × Addr)} {outer : List Env} {A₀ : Around} {base h₀ : Heap} {L : Addr} {m : Str → Option Value} {s : Shared} {Q E : Value → Shared → Prop} {news : List (Addr × Obj)}
local macro_rules | `(tactic| walk_at "call ref") => `(tactic| (k_here; (with_reducible show wpAny _ _ (call (Value.ref 73) [Value.bytes _ _]) _ _ _); k_dflt (refine' hex_spec ?B ?F ?X ?N ?T ?k ?d ?u ?z ?rn ?ri; (case B => k_asm); (case F => k_asm); (case X => k_asm); (case N => k_asm); (case T => k_asm); (case k => first | exact rfl | assumption); (case d => ktr_room); (case u => ktr_units); (case z => assumption)); (case' rn => intro n' t' h' tk' hD' F' N'); (case' ri => intro e' h' tk' hD' R')))
theorem rules25 : True := by
  k_with "exec Raise some none" => (k_here; (with_reducible show wpAny _ _ (exec (Stmt.Raise (some (Expr.Call (Expr.Name ("BadCode" : Str) _) _ _ _)) none _) _) _ _ _); k_dflt (refine' Raise_Y (C := 45) (Or.inr rfl) ?qqp ?qqr ?_; (case qqp => rfl); (case qqr => ktr_room)))
  k_with "exec Raise some none" => (k_here; (with_reducible show wpAny _ _ (exec (Stmt.Raise (some (Expr.Call (Expr.Name ("BadRow" : Str) _) _ _ _)) none _) _) _ _ _); k_dflt (refine' Raise_Y (C := 57) (Or.inl rfl) ?qqp ?qqr ?_; (case qqp => rfl); (case qqr => ktr_room)))
  trivial
set_option maxHeartbeats 8000000 in
theorem cof_spec {b : Array UInt8} {tb tn : Tok} {k : Int} (B : Below A₀ base outer h₀) (F : Fr h₀ L s.heap m) (X : (hd.heap_39 w.params).In h₀) (N : News h₀ L s.heap news) (T : Top hd.view_39 loose mean mg mb h₀) (hk : cs.kind = .function)
    (XB : (hd.heap_39 w.params).In base) (TB : Top hd.view_39 loose mean mg mb base) (D : KtsDicts (outer.filterMap (·.frame)) h₀)
    (hdp : dp + 60 < recursionLimit) (hu : un + 600 < cLine) (hz : b.size ≤ 1000)
    (ret : ∀ n t h' tk, fieldCode (KBw.bInts b) = some n → Fr h₀ L h' m → News h₀ L h' news → Q (.int n t) { s with heap := h', toks := tk })
    (rais : ∀ e h' tk ctx, fieldCode (KBw.bInts b) = none → ExcOut A₀ base outer h₀ L m (envX cn cs L a ccd cl) e 57 (.int k tn) ctx news h' → E (.ref e) { s with heap := h', toks := tk }) :
    wpAny (model PySem.Challenge.rw_nt0003_01.prog w) (ktrTop dp un gd cn cs L a ccd cl outer) (call (.ref 97) [.bytes b tb, .int k tn]) Q E s := by
  revert X XB; k_fill; intro X XB
  have hlen := KBw.ints_length b
  refine wpAny_call ?_
  k_dflt cell_enter
  k_steps
  · ((rename Fr _ _ _ _ => «lF✝»); (rename News _ _ _ _ => «lN✝»); refine ⟨_, rfl, by k_in, nolimit_of «lF✝» (by assumption), .inl ⟨rfl, fun _ _ _ _ _ «MX✝» => ?_⟩⟩; (show wpAny _ _ (leaving _ _) _ _ _); refine leave_raiseX (by assumption) «MX✝» «lF✝» «lN✝» (fun _ _ _ => ?_))
    rename_i R u'
    exact rais _ _ _ _ (by unfold fieldCode; rw [if_pos (by omega)]) ⟨_, _, KtsTurn.refl, by assumption, by assumption, (R.sub (by intro p hp; first | exact hp | exact List.mem_append_left _ hp | (repeat (first | exact hp | refine List.mem_cons_of_mem _ ?_)))), u'⟩
  · rename ExcOut _ _ _ _ _ _ _ _ _ _ _ _ _ => R'
    rename Fr h₀ L _ m => FG
    rename hexCode _ = none => hD
    obtain ⟨g1, G, T1, F1, B1, R1, u1⟩ := R'
    refine caught_X (KF := hd.heap_39 w.params) R1 F1 B1 u1 XB TB ((dicts_push D FG).turn T1) T1 (by with_unfolding_all rfl) (by with_unfolding_all rfl) (fun h5 g5 F5 C5 => ?_)
    have X5 := C5.inK
    have T5 := C5.top
    obtain ⟨oe, dA1, od1, N5, c1, c2, ⟨vs5, hv5, h25⟩, c4⟩ := C5.exc
    k_steps
    k_dflt (refine' Raise_Y (C := 57) (Or.inl rfl) ?rp1 ?rr1 ?_; (case rp1 => rfl); (case rr1 => (show dp + 1 + 1 < recursionLimit; omega)))
    k_steps
    refine ⟨_, rfl, X5.keeps F5.keep, T5.nolimit.keeps F5.keep, .inr ⟨_, oe, vs5, rfl, (N5 _ (.head _)).1, hv5, h25, fun e h' tk dA od MX => ?_⟩⟩
    show wpAny _ _ (leaving _ _) _ _ _
    refine leave_raiseX C5.below MX F5 N5 (fun h'' R u => ?_)
    obtain ⟨h₀', TT, FF, BB⟩ := turn_back B FG C5.turn
    exact rais _ _ _ _ (by unfold fieldCode; split <;> first | rfl | exact hD) ⟨h₀', _, TT, FF, BB, (R.sub (by intro p hp; first | exact hp | exact List.mem_append_left _ hp | (repeat (first | exact hp | refine List.mem_cons_of_mem _ ?_)))), u⟩
  · rename_i kF kN _ _
    exact ret _ _ _ _ (by unfold fieldCode; rw [if_neg (by omega)]; assumption) kF kN
end
end Mine
namespace Mine
theorem rules27 : True := by
  w_top off
  k_with_none
  k_with "execs cons" => (k_here; (try k_gentoks); (with_reducible refine execs_hide ?_); intro «Q✝» «k✝»; try dsimp only)
  trivial
open BB in
section
variable {prog : Program} {w : World} {A : Around} {E : Value → Shared → Prop} {s : Shared} {b c : Array UInt8} {t u : Tok} {Q : Value → Shared → Prop} {h₀ : Heap} {L l : Addr} {m : Str → Option Value} {news : List (Addr × Obj)} {vs : List Value} {bs : List (Array UInt8)}
theorem split_pos (b c : Array UInt8) : 0 < (splitBy b c).length := by unfold splitBy; rw [between_len]; omega
theorem split_le (b c : Array UInt8) : (splitBy b c).length ≤ b.size + 2 := by
  unfold splitBy; rw [between_len]
  have := occ_len b c
  omega
theorem split_sz (b c : Array UInt8) : ∀ p ∈ splitBy b c, p.size ≤ b.size := between_size b c.size _
theorem split_K (F : Fr h₀ L s.heap m) (N : News h₀ L s.heap news) (hz : b.size < 16777000) (hc : c.isEmpty = false)
    (ret : ∀ D h' vs tk, BAre vs (splitBy b c) → (∀ p ∈ news, p.1 < D) → Fr h₀ L h' m → News h₀ L h' ((D, listOf vs.toArray 0) :: news) → Q (.ref D) { s with heap := h', toks := tk }) :
    wpAny (model prog w) A (call (.builtin "bytes.split") [.bytes b t, .bytes c u]) Q E s :=
  BB.split hz hc fun vs k hb => ret _ _ vs k hb (fun p hp => Heap.lt_size (N p hp).1) (F.push _) (News.push F N _)
theorem lenB (hl : s.heap.IsList l vs.toArray) (hB : BAre vs bs) (hz : bs.length ≤ 16777216) (h : ∀ t k, Q (.int (bs.length : Nat) t) { s with toks := k }) : wpAny (model prog w) A (call (.builtin "len") [.ref l]) Q E s := by
  refine len_list hl ?_ ?_
  · simp only [List.size_toArray]; rw [hB.length]; omega
  · have := h (s.toks + 1) (s.toks + 1 + 1)
    rw [← hB.length] at this
    simpa using this
theorem itemB {value slice : Expr} {k : Int} {u : Tok} (hl : s.heap.IsList l vs.toArray) (hB : BAre vs bs) (h0 : 0 ≤ k) (h1 : k.toNat < bs.length) (hz : bs.length ≤ 16777216) (h : ∀ t, Q (.bytes bs[k.toNat] t) s)
    (hs : subscripted slice false (.ref l) (.int k u) = operate [.ref l, .int k u] (getItem (.ref l) (.int k u)) := by with_unfolding_all rfl) (hg : ∀ r, letTemporaryGo value (.ref l) r = pure () := by intro _; with_unfolding_all rfl) :
    wpAny (model prog w) A (subscriptTail value slice (.ref l) (.int k u)) Q E s := by
  obtain ⟨t, ht⟩ := hB.get k.toNat h1
  exact item_listL hl h0 (by omega) ht (h t) hs hg
theorem itemBn {value slice : Expr} {k : Int} {u : Tok} (hl : s.heap.IsList l vs.toArray) (hB : BAre vs bs) (h0 : k < 0) (h1 : (k + bs.length).toNat < bs.length) (h2 : 0 ≤ k + bs.length) (hz : bs.length ≤ 16777216) (h : ∀ t, Q (.bytes bs[(k + bs.length).toNat] t) s)
    (hs : subscripted slice false (.ref l) (.int k u) = operate [.ref l, .int k u] (getItem (.ref l) (.int k u)) := by with_unfolding_all rfl) :
    wpAny (model prog w) A (subscriptTail value slice (.ref l) (.int k u)) Q E s := by
  obtain ⟨t, ht⟩ := hB.get (k + bs.length).toNat h1
  refine tail_any (T := "list") (let ⟨o, ho, hc, _⟩ := hl; ⟨o, ho, hc⟩) F.slot_list_getitem.lookup (wpAny_getItem_list_neg hl h0 ?_ (by omega) ?_ (h t)) hs
  · simp only [List.size_toArray]; rw [hB.length]; omega
  · simp only [List.size_toArray]; rw [hB.length]; simpa using ht
theorem itemBz {value slice : Expr} {k : Int} {u : Tok} {z : Nat} (hl : s.heap.IsList l vs.toArray) (hB : BAre vs bs) (hz : ∀ p ∈ bs, p.size ≤ z) (hn : bs.length ≤ 16777216) (h0 : 0 ≤ k) (h1 : k.toNat < bs.length) (h : ∀ b' t, b' = bs.getD k.toNat #[] → b'.size ≤ z → Q (.bytes b' t) s)
    (hs : subscripted slice false (.ref l) (.int k u) = operate [.ref l, .int k u] (getItem (.ref l) (.int k u)) := by with_unfolding_all rfl) (hg : ∀ r, letTemporaryGo value (.ref l) r = pure () := by intro _; with_unfolding_all rfl) :
    wpAny (model prog w) A (subscriptTail value slice (.ref l) (.int k u)) Q E s :=
  itemB hl hB h0 h1 hn (fun t => h _ t (by simp [List.getD, h1]) (hz _ (List.getElem_mem h1))) hs hg
theorem itemBl {value slice : Expr} {u : Tok} {z : Nat} (hl : s.heap.IsList l vs.toArray) (hB : BAre vs bs) (hz : ∀ p ∈ bs, p.size ≤ z) (hn : bs.length ≤ 16777216) (h1 : 0 < bs.length) (h : ∀ b' t, b' = bs.getD (bs.length - 1) #[] → b'.size ≤ z → Q (.bytes b' t) s)
    (hs : subscripted slice false (.ref l) (.int (-1) u) = operate [.ref l, .int (-1) u] (getItem (.ref l) (.int (-1) u)) := by with_unfolding_all rfl) :
    wpAny (model prog w) A (subscriptTail value slice (.ref l) (.int (-1) u)) Q E s := by
  have e : ((-1 : Int) + (bs.length : Nat)).toNat = bs.length - 1 := by omega
  have h2 : bs.length - 1 < bs.length := by omega
  refine itemBn hl hB (by decide) (by omega) (by omega) hn (fun t => ?_) hs
  refine h _ t ?_ (hz _ (List.getElem_mem _))
  simp [List.getD, e, h2]
end
open BB in
theorem bare_item : ∀ {vs : List Value} {bs : List (Array UInt8)} (_ : BAre vs bs) {i : Nat} {v : Value} (_ : vs[i]? = some v), ∃ b' t, v = .bytes b' t ∧ bs[i]? = some b'
  | _, _, .nil, i, v, h => by simp at h
  | _, _, .cons b' t' r, 0, v, h => ⟨b', t', by simpa using h.symm, rfl⟩
  | _, _, .cons b' t' r, i + 1, v, h => by
    obtain ⟨x, t, e, e2⟩ := bare_item r (i := i) (v := v) (by simpa using h)
    exact ⟨x, t, e, by simpa using e2⟩
open BB in
theorem bare_at {vs : List Value} {bs : List (Array UInt8)} (hB : BAre vs bs) {z i : Nat} {v : Value} (hv : vs.toArray[i]? = some v) (hz : ∀ p ∈ bs, p.size ≤ z) : ∃ b' t, v = .bytes b' t ∧ b'.size ≤ z ∧ bs[i]? = some b' ∧ bs.take (i + 1) = bs.take i ++ [b'] := by
  obtain ⟨b', t, e, e2⟩ := bare_item hB (by simpa using hv)
  exact ⟨b', t, e, hz _ (List.mem_of_getElem? e2), e2, by rw [List.take_add_one, e2]; rfl⟩
end Mine
namespace Mine
theorem rules30 : True := by
  w_top off
  k_with_none
  k_with "execs cons" => (k_here; (try k_gentoks); (with_reducible refine execs_hide ?_); intro «Q✝» «k✝»; try dsimp only)
  trivial
def rangeCode (bs : List (Array UInt8)) : Option (Int × Int) := if 2 < bs.length then none else match fieldCode (KBw.bInts (bs.getD 0 #[])), fieldCode (KBw.bInts (bs.getD (bs.length - 1) #[])) with
  | some a, some b => if b < a then none else some (a, b)
  | _, _ => none
section
variable {w : World} {loose : List Str} {mean : ExcName → Option Value} {mg mb : Str → Option Value} {dp un : Nat} {gd : Option (List Code)} {cn : Str} {cs : Scope} {a : Addr} {ccd : Value} {cl : List (Str × Addr)} {outer : List Env} {A₀ : Around} {base h₀ : Heap} {L : Addr} {m : Str → Option Value} {s : Shared} {Q E : Value → Shared → Prop} {news : List (Addr × Obj)}
theorem rules28 : True := by
  k_with "getMethod bytes" => (k_here; first | (with_reducible refine BB.find_method ?_) | (with_reducible refine BB.strip_method ?_) | (with_reducible refine BB.split_method ?_) | (with_reducible refine BB.join_method ?_) | (with_reducible refine BB.starts_method ?_))
  k_with "call builtin:bytes.split" => (k_here; k_dflt (refine' split_K ?qqbsF ?qqbsN ?qqbsz ?qqbsc ?_; (case qqbsF => k_asm); (case qqbsN => k_asm); (case qqbsz => omega); (case qqbsc => rfl)); intro «D'✝» «h'✝» «vs'✝» «tk'✝» «hB'✝» «l1✝» «F'✝» «N'✝»; (try k_lt «l1✝»))
  k_with "call builtin:len" => (k_here; (with_reducible show wpAny _ _ (call (Value.builtin "len") [Value.ref _]) _ _ _); (rename News _ _ _ _ => «nX✝»); k_dflt (refine' lenB (News.isList (n := 0) «nX✝» ?qqlm) ?qqlB ?qqlz ?_; (case qqlm => k_mem); (case qqlB => assumption); (case qqlz => first | assumption | omega)); intro _ _)
  trivial
local macro_rules | `(tactic| walk_at "call ref") => `(tactic| (k_here; (with_reducible show wpAny _ _ (call (Value.ref 97) [Value.bytes _ _, Value.int _ _]) _ _ _); k_dflt (refine' cof_spec ?B ?F ?X ?N ?T ?k ?XB ?TB ?D ?d ?u ?z ?rn ?ri; (case B => k_asm); (case F => k_asm); (case X => k_asm); (case N => k_asm); (case T => k_asm); (case k => first | exact rfl | assumption); (case XB => assumption); (case TB => assumption); (case D => assumption); (case d => ktr_room); (case u => ktr_units); (case z => omega)); (case' rn => intro n' t' h' tk' hD' F' N'); (case' ri => intro e' h' tk' ctx' hD' R')))
theorem rules29 : True := by
  k_with "exec Raise some none" => (k_here; (with_reducible show wpAny _ _ (exec (Stmt.Raise (some (Expr.Call (Expr.Name ("BadCode" : Str) _) _ _ _)) none _) _) _ _ _); k_dflt (refine' Raise_Y (C := 45) (Or.inr rfl) ?qqp ?qqr ?_; (case qqp => rfl); (case qqr => ktr_room)))
  k_with "exec Raise some none" => (k_here; (with_reducible show wpAny _ _ (exec (Stmt.Raise (some (Expr.Call (Expr.Name ("BadRow" : Str) _) _ _ _)) none _) _) _ _ _); k_dflt (refine' Raise_Y (C := 57) (Or.inl rfl) ?qqp ?qqr ?_; (case qqp => rfl); (case qqr => ktr_room)))
  trivial
set_option maxHeartbeats 8000000 in
theorem range_spec {b : Array UInt8} {tb tn : Tok} {k : Int} (B : Below A₀ base outer h₀) (F : Fr h₀ L s.heap m) (X : (hd.heap_39 w.params).In h₀) (N : News h₀ L s.heap news) (T : Top hd.view_39 loose mean mg mb h₀) (hk : cs.kind = .function)
    (XB : (hd.heap_39 w.params).In base) (TB : Top hd.view_39 loose mean mg mb base) (D : KtsDicts (outer.filterMap (·.frame)) h₀)
    (hdp : dp + 80 < recursionLimit) (hu : un + 800 < cLine) (hz : b.size ≤ 100)
    (ret : ∀ D x y tx ty h' tk, rangeCode (BB.splitBy b #[46, 46]) = some (x, y) → Fr h₀ L h' m → News h₀ L h' ((D, { cls := .type "tuple", data := .seq #[.int x tx, .int y ty] }) :: news) → Q (.ref D) { s with heap := h', toks := tk })
    (rais : ∀ e h' tk ctx, rangeCode (BB.splitBy b #[46, 46]) = none → ExcOut A₀ base outer h₀ L m (envX cn cs L a ccd cl) e 57 (.int k tn) ctx news h' → E (.ref e) { s with heap := h', toks := tk }) :
    wpAny (model PySem.Challenge.rw_nt0003_01.prog w) (ktrTop dp un gd cn cs L a ccd cl outer) (call (.ref 105) [.bytes b tb, .int k tn]) Q E s := by
  revert X XB; k_fill; intro X XB
  have hsl := split_le b #[46, 46]
  have hsp := split_pos b #[46, 46]
  have hsz := split_sz b #[46, 46]
  have hslz : (BB.splitBy b #[46, 46]).length ≤ 16777216 := by omega
  refine wpAny_call ?_
  k_dflt (refine' code_def ?k1 ?k2 ?k3 ?k4 ?k5 ?kA ?kF ?kK ?k6 ?k7 ?k8 ?k9 ?kB ?_ ?c2 ?c3 ?c4 ?c5; (case kA => exact rfl); (case kF => exact rfl); (case kK => assumption); (case k1 => k_asm); (case k2 => k_asm); (case k3 => k_asm); (case k4 => k_asm); (case k5 => k_asm); (case k6 => k_is); (case k7 => k_is); (case k8 => ktr_room); (case k9 => exact BindsTo.of_defaults (T := 98) rfl ((X.keeps F.keep) _ _ (by with_unfolding_all rfl)) rfl rfl rfl); (case c5 => decide); (case kB => exact locs rfl); (case c2 => exact rfl); (case c3 => exact rfl); (case c4 => exact rfl); k_whole; intro g' L' h' FG' F' N' B' X' T'; (try dsimp only); (try k_lift B'); (try k_fold))
  rename Fr h₀ L _ m => FG
  have DG := dicts_push (cn := cn) (cs := cs) (ccd := ccd) (a := a) (cl := cl) D FG
  k_steps
  · ((rename Fr _ _ _ _ => «lF✝»); (rename News _ _ _ _ => «lN✝»); refine ⟨_, rfl, by k_in, nolimit_of «lF✝» (by assumption), .inl ⟨rfl, fun _ _ _ _ _ «MX✝» => ?_⟩⟩; (show wpAny _ _ (leaving _ _) _ _ _); refine leave_raiseX (by assumption) «MX✝» «lF✝» «lN✝» (fun _ _ _ => ?_))
    rename_i R u'
    exact rais _ _ _ _ (by unfold rangeCode; rw [if_pos (by omega)]) ⟨_, _, KtsTurn.refl, by assumption, by assumption, (R.sub (by intro p hp; first | exact hp | exact List.mem_append_left _ hp | (repeat (first | exact hp | refine List.mem_cons_of_mem _ ?_)))), u'⟩
  · rename BB.BAre _ _ => hB'
    rename News _ _ _ _ => nX
    refine itemBz (News.isList (n := 0) nX (.head _)) hB' hsz hslz (by decide) hsp fun b0 t0 hb0 hz0 => ?_
    replace hb0 : b0 = (BB.splitBy b #[46, 46]).getD 0 #[] := hb0
    k_steps
    · rename ExcOut _ _ _ _ _ _ _ _ _ _ _ _ _ => R'
      rename fieldCode _ = none => hD
      obtain ⟨g1, G, T1, F1, B1, R1, u1⟩ := R'
      refine leave_onX B1 F1 R1 u1 (fun h'' R u => ?_)
      obtain ⟨h₀', TT, FF, BB⟩ := turn_back B FG T1
      exact rais _ _ _ _ (by unfold rangeCode; rw [if_neg (by omega), ← hb0, hD]) ⟨h₀', _, TT, FF, BB, (R.sub (by intro p hp; first | exact hp | exact List.mem_append_left _ hp | (repeat (first | exact hp | refine List.mem_cons_of_mem _ ?_)))), u⟩
    · rename fieldCode _ = some _ => hD1
      rename News _ _ _ _ => nX
      refine itemBl (News.isList (n := 0) nX (.head _)) hB' hsz hslz hsp fun b1 t1 hb1 hz1 => ?_
      k_steps
      refine' cof_spec ?B1 ?F1 ?X1 ?N1 ?T1 ?k1 ?XB1 ?TB1 ?D1 ?d1 ?u1 ?z1 ?rn1 ?ri1
      case B1 => k_asm
      case F1 => k_asm
      case X1 => k_asm
      case N1 => k_asm
      case T1 => k_asm
      case k1 => first | exact rfl | assumption
      case XB1 => assumption
      case TB1 => assumption
      case D1 => assumption
      case d1 => ktr_room
      case u1 => ktr_units
      case z1 => omega
      case ri1 =>
        intro e' h' tk' ctx' hD R'
        obtain ⟨g1, G, T1, F1, B1, R1, u1⟩ := R'
        show wpAny _ _ (leaving _ _) _ _ _
        refine leave_onX B1 F1 R1 u1 (fun h'' R u => ?_)
        obtain ⟨h₀', TT, FF, BB⟩ := turn_back B FG T1
        exact rais _ _ _ _ (by unfold rangeCode; rw [if_neg (by omega), ← hb0, ← hb1, hD1, hD]) ⟨h₀', _, TT, FF, BB, (R.sub (by intro p hp; first | exact hp | exact List.mem_append_left _ hp | (repeat (first | exact hp | refine List.mem_cons_of_mem _ ?_)))), u⟩
      case rn1 =>
        intro n' t' h' tk' hD2 F' N'
        have hrc : ∀ x1, fieldCode (KBw.bInts b0) = some x1 → rangeCode (BB.splitBy b #[46, 46]) = if n' < x1 then none else some (x1, n') := fun x1 hx1 => by
          unfold rangeCode; rw [if_neg (by omega), ← hb0, ← hb1, hx1, hD2]
        replace hrc := hrc _ hD1
        k_steps
        · ((rename Fr _ _ _ _ => «lF✝»); (rename News _ _ _ _ => «lN✝»); refine ⟨_, rfl, by k_in, nolimit_of «lF✝» (by assumption), .inl ⟨rfl, fun _ _ _ _ _ «MX✝» => ?_⟩⟩; (show wpAny _ _ (leaving _ _) _ _ _); refine leave_raiseX (by assumption) «MX✝» «lF✝» «lN✝» (fun _ _ _ => ?_))
          rename_i R u'
          exact rais _ _ _ _ (by rw [hrc]; exact if_pos (by assumption)) ⟨_, _, KtsTurn.refl, by assumption, by assumption, (R.sub (by intro p hp; first | exact hp | exact List.mem_append_left _ hp | (repeat (first | exact hp | refine List.mem_cons_of_mem _ ?_)))), u'⟩
        · rename_i kF kN _ _
          exact ret _ _ _ _ _ _ _ (by rw [hrc]; exact if_neg (by assumption)) kF (fun p hp => kN p (by
            rcases List.mem_cons.mp hp with h | h
            · exact h ▸ .head _
            · exact .tail _ (.tail _ (.tail _ h))))
end
end Mine
namespace Mine
theorem rules31 : True := by
  w_top off
  k_with_none
  k_with "execs cons" => (k_here; (try k_gentoks); (with_reducible refine execs_hide ?_); intro «Q✝» «k✝»; try dsimp only)
  trivial
section
variable {prog : Program} {w : World} {A₀ A : Around} {s : Shared} {base h₀ : Heap} {outer : List Env} {L a : Addr} {m : Str → Option Value} {cn : Str} {cs : Scope} {ccd : Value} {cl : List (Str × Addr)} {news : List (Addr × Obj)} {K : Frag} {p : Program} {loose : List Str} {mean : ExcName → Option Value} {mg mb : Str → Option Value}
    {R : Result → Shared → Prop} {name qual : Str} {params : Arguments} {body : List Stmt} {scope : Scope} {dV kV doc pm cdv ct oc : Value} {an od : Option Addr} {osl : Array (Option Value)} {f : Addr} {args : Args} {binds : List (Str × Value)}
/-- the end of a call whose frames may have been shown to an exception meanwhile -/
def LeaveT (A₀ : Around) (base : Heap) (outer : List Env) (fs : List Addr) (h₀ : Heap) (L : Addr) (m : Str → Option Value) (g : Heap) (R : Result → Shared → Prop) (v : Value) (s' : Shared) : Prop :=
  ∃ g' L' m' news', KtsTurn fs g g' ∧ Fr g' L' s'.heap m' ∧ News g' L' s'.heap news' ∧ (∀ h₀', KtsTurn (outer.filterMap (·.frame)) h₀ h₀' → Fr h₀' L s'.heap m → News h₀' L s'.heap news' → Below A₀ base outer h₀' → R (.ok (.ret v)) s')
theorem code_defX (B : Below A₀ base outer h₀) (F : Fr h₀ L s.heap m) (X₀ : K.In h₀) (N : News h₀ L s.heap news) (T : Top p loose mean mg mb h₀) (hA : A.frames = some (envX cn cs L a ccd cl :: outer))
    (ho : K.lookup f = some ⟨oc, od, .func (fnOf name qual params body scope dV kV doc pm an cdv ct), osl⟩) (hcd : codeIn K cdv qual = true) (hroom : A.depth < recursionLimit)
    (hbind : BindsTo s (fnOf name qual params body scope dV kV doc pm an cdv ct) args binds) (hloc : ∀ y ∈ binds, scope.names.lookup y.1 = some .local)
    (h : ∀ g L' h₁, Fr h₀ L g m → Fr g L' h₁ (fun y => binds.reverse.lookup y) → News g L' h₁ news → Below A base (envX cn cs L a ccd cl :: outer) g → K.In g → Top p loose mean mg mb g →
      wpAny (model prog w) (A.deeper (envOf qual scope L' f cdv)) (execs body (envOf qual scope L' f cdv))
        (fun fl s' => LeaveT A₀ base outer ((envX cn cs L a ccd cl :: outer).filterMap (·.frame)) h₀ L m g R (match fl with | .ret v => v | _ => .none) s')
        (fun e s' => wpAny (model prog w) (A.deeper (envOf qual scope L' f cdv)) (leaving (envOf qual scope L' f cdv) e) (fun _ s'' => R (.error e) s'') (fun e' s'' => R (.error e') s'') s')
        { s with heap := h₁, toks := s.toks + binds.length })
    (hck : cs.kind = .function) (hco : scope.isCoroutine = false) (hgen : scope.isGenerator = false) (hk : scope.kind = .function)
    (hcell : ∀ x ∈ scope.names, x.2 ≠ .cell) : codeAny (model prog w) A (.call (.ref f) args) R s := by
  have X := X₀.keeps F.keep
  refine codeAny_call_def (fd := fnOf name qual params body scope dV kV doc pm an cdv ct) (body := body) (binds := binds) hroom (X _ _ ho) rfl (T.nolimit.keeps F.keep) (codeRec_of X hcd) rfl hbind hcell hloc (fun h₁ hns hk₁ => ?_) hco hgen hk
  obtain ⟨oL, es, ep, hLg, hLd, hN, hNs, st, B₂⟩ := kts_enter (A := A₀.deeper (envOf cn cs L a ccd)) B F N (Around.frames_deeper B.stack) hck
  have B₃ : Below A base (envX cn cs L a ccd cl :: outer) (hideAll s.heap (news.map (·.1))) := ⟨hA, B₂.stays, B₂.frames⟩
  refine wpAny_mono (h _ s.heap.objs.size h₁ ⟨hN _ hLg, st, F.above⟩ ⟨hns, fun b o e => hk₁ b o (of_hideAll _ e), Nat.le_of_eq (hideAll_size _ _)⟩
    (fun p hp => ⟨hk₁ _ _ (N p hp).1, Nat.ne_of_lt (Heap.lt_size (N p hp).1), hideAll_none _ (List.mem_map_of_mem hp)⟩) B₃ (X₀.keeps st) (T.keeps st)) (fun fl s' hl => ?_) fun _ _ y => y
  obtain ⟨g', L', m', news', T', F', N', k⟩ := hl
  obtain ⟨h₀', TT, FF, BB⟩ := turn_back (cl := cl) (cn := cn) (cs := cs) (ccd := ccd) (a := a) B ⟨hN _ hLg, st, F.above⟩ T'
  obtain ⟨sl, hs⟩ := T'.up hLg
  refine k h₀' TT (FF.keeps F'.keep) (fun p hp => ⟨(N' p hp).1, fun q => ?_, ?_⟩) BB
  · have := (N' p hp).2.2; rw [q, hs] at this; cases this
  · cases q : h₀'.get? p.1 with
    | none => rfl
    | some o => have := FF.keep _ _ q; rw [(N' p hp).2.2] at this; cases this
end
end Mine
namespace Mine
theorem rules32 : True := by
  w_top off
  k_with_none
  k_with "execs cons" => (k_here; (try k_gentoks); (with_reducible refine execs_hide ?_); intro «Q✝» «k✝»; try dsimp only)
  trivial
theorem ex_ga (w : World) {C : Addr} (hC : C = 57 ∨ C = 45) : findIn (KK w) (.ref C) "__getattribute__" = some (some (.builtin "BaseException.__getattribute__")) := by
  rcases hC with rfl | rfl <;> with_unfolding_all rfl
theorem ex_noga (w : World) {C : Addr} (hC : C = 57 ∨ C = 45) : findIn (KK w) (.ref C) "__getattr__" = some none := by
  rcases hC with rfl | rfl <;> with_unfolding_all rfl
section
variable {w : World} {A : Around} {E : Value → Shared → Prop} {h : Heap} {g : Array GenState} {d : Drawn} {t : Nat} {os : OsState} {C x dA : Addr} {o : Obj} {v : Value} {mA : Str → Option Value}
variable {nm q : Str} {N : Addr} {bs bm : List Value} {hdct : Bool} {sn : List Str} {sub : List Value} {ab : Bool} {col : Option Bool} {dd : Option Addr} {k0 k1 k2 k3 k5 : Option Value}
theorem ex_check_ga {M : Model} {nameV : Value} {Q : Unit → Shared → Prop} (hC : h.get? C = some (excClassObj nm q C N bs exMro hdct sn sub ab col dd k0 k1 k2 k3 k5 "Exception.__new__")) (hx : h.get? x = some o) (hc : o.cls = .ref C) (hq : Q () ⟨h, g, d, t, os⟩) :
    wpAny M A (checkBuiltinCall "BaseException.__getattribute__" ⟨[.ref x, nameV], []⟩) Q E ⟨h, g, d, t, os⟩ := by
  have hk : builtinKind "BaseException.__getattribute__" = some .slot := by decide +kernel
  have hsplit : splitId "BaseException.__getattribute__" = some ("BaseException", "__getattribute__") := by decide +kernel
  have hcB : (Value.ref C :: exMro).contains (.type "BaseException") = true := by simp
  have ha := PySem.F.args_bexc_ga (.ref x) nameV
  simp only [checkBuiltinCall, hk, hsplit]
  refine wpAny_bind ?_
  · unfold isInstance
    repeat (first | (with_reducible refine wpAny_loadPart_at hx ?_; rw [hc]) | (with_reducible refine wpAny_isSubtype_exc hC ?_; rw [hcB]) | wp_step)
    exact hq
open Builtin Builtin.ObjectAttr in
theorem told_entry {tk : Tok} {Q : PySem.Fin → Shared → Prop} (hcc : C = 57 ∨ C = 45) (X : (KK w).In h)
    (hx : h.get? x = some o) (hc : o.cls = .ref C) (hd : o.dict = some dA) (hf : ∃ vs, o.data = .fields vs) (hn : h.Ns dA mA) (hv : mA "told" = some v)
    (hq : Q (.done (.ret v)) ⟨h, g, d, t, os⟩) :
    wpAny (model PG w) A (Builtin.«object.__getattribute__» ⟨[.ref x, .str "told" tk], []⟩) Q E ⟨h, g, d, t, os⟩ := by
  obtain ⟨nm, q, N, bs, sn, sub, ab, col, dd, k0, k1, k2, k3, k5, hl⟩ := id (exc_of w hcc).cls
  have hC := X _ _ hl
  have hnc : ∀ c, o.data ≠ .cls c := fun c e => by obtain ⟨vs, hv⟩ := hf; rw [hv] at e; cases e
  unfold Builtin.«object.__getattribute__»
  repeat (first | (with_reducible refine wpAny_loadPart_at hx ?_; rw [hc]) | wp_step)
  refine looks_findIn X (ex_told w hcc) _ _ _ _ (fun _ _ e => e) ?_
  repeat (first | (with_reducible refine wpAny_loadPart_at hx ?_; rw [hc]) | wp_step)
  split
  · rename_i c hcd
    exact absurd hcd (hnc c)
  unfold instanceDict
  repeat (first | (with_reducible refine wpAny_loadPart_at hx ?_; rw [hc]) | with_reducible refine wpAny_loadPart_at hC ?_ | wp_step)
  rw [hd]
  repeat (first | (with_reducible refine wpAny_nsGet hn ?_; rw [hv]) | wp_step)
  exact hq
theorem told_attr {expr : Bool} {Q : Value → Shared → Prop} (hcc : C = 57 ∨ C = 45) (X : (KK w).In h)
    (hx : h.get? x = some o) (hc : o.cls = .ref C) (hd : o.dict = some dA) (hf : ∃ vs, o.data = .fields vs) (hn : h.Ns dA mA) (hv : mA "told" = some v) (hh : handedOut v = pure v)
    (hq : ∀ tk, Q v ⟨h, g, d, tk, os⟩) : wpAny (model PG w) A (getAttr (.ref x) "told" expr) Q E ⟨h, g, d, t, os⟩ := by
  obtain ⟨nm, q, N, bs, sn, sub, ab, col, dd, k0, k1, k2, k3, k5, hl⟩ := id (exc_of w hcc).cls
  have hC := X _ _ hl
  have FB := PySem.F.attrBase_Exception
  have f3 := FB.ga.bind (.ref x)
  have hx0 : (expr && onTheHeap (Value.builtin "BaseException.__getattribute__")) = false := by cases expr <;> rfl
  have hx2 : (Value.builtin "BaseException.__getattribute__" == Value.builtin "object.__getattribute__") = false := by decide +kernel
  have hx1 : (onTheHeap (Value.ref C) && Value.builtin "BaseException.__getattribute__" == Value.builtin "object.__getattribute__") = false := by rw [hx2]; rfl
  unfold getAttr getAttrBy
  repeat (any_goals (first | assumption | (with_reducible refine wpAny_loadPart_at hx ?_; rw [hc]) | wp_step))
  refine looks_findIn X (ex_ga w hcc) _ _ _ _ (fun _ _ e => e) ?_
  repeat (any_goals (first | assumption | (with_reducible refine wpAny_loadPart_at hx ?_; rw [hc]) | wp_step))
  refine looks_findIn X (ex_noga w hcc) _ _ _ _ (fun _ _ e => e) ?_
  repeat (any_goals (first | assumption | (with_reducible refine wpAny_loadPart_at hx ?_; rw [hc]) | wp_step))
  refine codeAny_call_builtin FB.ga.plain PySem.F.entry_bexc_ga (ex_check_ga hC hx hc (told_entry hcc X hx hc hd hf hn hv ?_))
  repeat (any_goals (first | assumption | wp_step))
  exact hq _
end
end Mine
namespace Mine
local macro_rules | `(tactic| walk_at "mine pad") => `(tactic| fail)
theorem rules34 : True := by
  w_top off
  k_with_none
  k_with "execs cons" => (k_here; (try k_gentoks); (with_reducible refine execs_hide ?_); intro «Q✝» «k✝»; try dsimp only)
  trivial
theorem fr_back {h₀ h₀' h : Heap} {L : Addr} {m : Str → Option Value} (T : KtsTurn (([] : List Env).filterMap (·.frame)) h₀ h₀') (F : Fr h₀' L h m) : Fr h₀ L h m :=
  ⟨F.ns, fun b o e => F.keep b o (T.other b o e (fun h => nomatch h)), by rw [← T.size]; exact F.above⟩
theorem news_back {h₀ h₀' h : Heap} {L : Addr} {news : List (Addr × Obj)} (T : KtsTurn (([] : List Env).filterMap (·.frame)) h₀ h₀') (N : News h₀' L h news) : News h₀ L h news := fun p hp => ⟨(N p hp).1, (N p hp).2.1, by
  cases q : h₀.get? p.1 with
  | none => rfl
  | some o => have := T.other _ _ q (fun h => nomatch h); rw [(N p hp).2.2] at this; cases this⟩
section
variable {w : World} {loose : List Str} {mean : ExcName → Option Value} {mg mb : Str → Option Value} {dp un : Nat} {gd : Option (List Code)} {cn : Str} {cs : Scope} {a : Addr} {ccd : Value} {cl : List (Str × Addr)} {outer : List Env} {A₀ : Around} {base h₀ : Heap} {L : Addr} {m : Str → Option Value} {s : Shared} {Q E : Value → Shared → Prop} {news : List (Addr × Obj)}
theorem rules33 : True := by
  k_with "getMethod bytes" => (k_here; first | (with_reducible refine BB.find_method ?_) | (with_reducible refine BB.strip_method ?_) | (with_reducible refine BB.split_method ?_) | (with_reducible refine BB.join_method ?_) | (with_reducible refine BB.starts_method ?_))
  k_with "call builtin:bytes.split" => (k_here; k_dflt (refine' split_K ?qqbsF ?qqbsN ?qqbsz ?qqbsc ?_; (case qqbsF => k_asm); (case qqbsN => k_asm); (case qqbsz => omega); (case qqbsc => rfl)); intro «D'✝» «h'✝» «vs'✝» «tk'✝» «hB'✝» «l1✝» «F'✝» «N'✝»; (try k_lt «l1✝»))
  k_with "call builtin:len" => (k_here; (with_reducible show wpAny _ _ (call (Value.builtin "len") [Value.ref _]) _ _ _); (rename News _ _ _ _ => «nX✝»); k_dflt (refine' lenB (News.isList (n := 0) «nX✝» ?qqlm) ?qqlB ?qqlz ?_; (case qqlm => k_mem); (case qqlB => assumption); (case qqlz => first | assumption | omega)); intro _ _)
  trivial
local macro_rules | `(tactic| walk_at "call ref") => `(tactic| (k_here; (with_reducible show wpAny _ _ (call (Value.ref 105) [Value.bytes _ _, Value.int _ _]) _ _ _); k_dflt (refine' range_spec ?B ?F ?X ?N ?T ?k ?XB ?TB ?D ?d ?u ?z ?rn ?ri; (case B => k_asm); (case F => k_asm); (case X => k_asm); (case N => k_asm); (case T => k_asm); (case k => first | exact rfl | assumption); (case XB => assumption); (case TB => assumption); (case D => assumption); (case d => ktr_room); (case u => ktr_units); (case z => omega)); (case' rn => intro D' x' y' tx' ty' h' tk' hD' F' N'); (case' ri => intro e' h' tk' ctx' hD' R')))
set_option maxHeartbeats 8000000 in
theorem heard_spec {b : Array UInt8} {tb tn : Tok} {k : Int} (B : Below A₀ base [] h₀) (F : Fr h₀ L s.heap m) (X : (hd.heap_39 w.params).In h₀) (N : News h₀ L s.heap news) (T : Top hd.view_39 loose mean mg mb h₀) (hk : cs.kind = .function)
    (XB : (hd.heap_39 w.params).In base) (TB : Top hd.view_39 loose mean mg mb base)
    (hdp : dp + 100 < recursionLimit) (hu : un + 1000 < cLine) (hz : b.size ≤ 100)
    (ret1 : ∀ D x y tx ty h' tk, rangeCode (BB.splitBy b #[46, 46]) = some (x, y) → Fr h₀ L h' m → News h₀ L h' ((D, { cls := .type "tuple", data := .seq #[.int x tx, .int y ty] }) :: news) → Q (.ref D) { s with heap := h', toks := tk })
    (ret2 : ∀ h' tk, rangeCode (BB.splitBy b #[46, 46]) = none → Fr h₀ L h' m → News h₀ L h' news → Q (.int k tn) { s with heap := h', toks := tk }) :
    wpAny (model PySem.Challenge.rw_nt0003_01.prog w) (ktrTop dp un gd cn cs L a ccd cl []) (call (.ref 176) [.bytes b tb, .int k tn]) Q E s := by
  revert X XB; k_fill; intro X XB
  refine wpAny_call ?_
  k_dflt (refine' code_defX (A₀ := A₀) (base := base) ?k1 ?k2 ?k3 ?k4 ?k5 ?kA ?k6 ?k7 ?k8 ?k9 ?kB ?_ ?c1 ?c2 ?c3 ?c4 ?c5; (case kA => exact rfl); (case k1 => k_asm); (case k2 => k_asm); (case k3 => k_asm); (case k4 => k_asm); (case k5 => k_asm); (case k6 => k_is); (case k7 => k_is); (case k8 => ktr_room); (case k9 => exact BindsTo.of_eq rfl); (case c1 => assumption); (case c5 => decide); (case kB => exact locs rfl); (case c2 => exact rfl); (case c3 => exact rfl); (case c4 => exact rfl); k_whole; intro g' L' h' FG' F' N' B' X' T'; (try dsimp only); (try k_lift B'); (try k_fold))
  rename Fr h₀ L _ m => FG
  have DG := dicts_push (cn := cn) (cs := cs) (ccd := ccd) (a := a) (cl := cl) (fun b hb => nomatch hb : KtsDicts (([] : List Env).filterMap (·.frame)) h₀) FG
  k_steps
  · rename ExcOut _ _ _ _ _ _ _ _ _ _ _ _ _ => R'
    rename rangeCode _ = none => hD
    obtain ⟨g1, G, T1, F1, B1, R1, u1⟩ := R'
    refine caught_XB (KF := hd.heap_39 w.params) R1 F1 B1 u1 XB TB (DG.turn T1) T1 (by with_unfolding_all rfl) (by with_unfolding_all rfl) (fun h5 g5 tk5 F5 C5 => ?_)
    have X5 := C5.inK
    have T5 := C5.top
    obtain ⟨oe, dA1, od1, N5, c1, c2, ⟨vs5, hv5, h25⟩, c4⟩ := C5.exc
    k_steps
    refine told_attr (A := _) (Or.inl rfl) (X5.keeps F5.keep) (N5 _ (.head _)).1 c1 c2 ⟨vs5, hv5⟩ (c4.ns (N5 _ (.tail _ (.head _))).1) rfl rfl (fun tk6 => ?_)
    k_steps
    rename Fr _ _ _ _ => F2
    rename News _ _ _ _ => N2
    show LeaveT _ _ _ _ _ _ _ _ _ _ _
    exact ⟨g5, L', _, _, C5.turn, F2, N2, fun h₀' TT FF NN BB => ret2 _ _ hD (fr_back TT FF) (news_back TT fun p hp => NN p (.tail _ (.tail _ hp)))⟩
  · rename Fr _ _ _ _ => F2
    rename News _ _ _ _ => N2
    rename rangeCode _ = some _ => hD
    show LeaveT _ _ _ _ _ _ _ _ _ _ _
    exact ⟨g', L', _, _, KtsTurn.refl, F2, N2, fun h₀' TT FF NN BB => ret1 _ _ _ _ _ _ _ hD (fr_back TT FF) (news_back TT NN)⟩
end
end Mine
namespace Mine
theorem rules36 : True := by
  w_top off
  k_with_none
  k_with "execs cons" => (k_here; (try k_gentoks); (with_reducible refine execs_hide ?_); intro «Q✝» «k✝»; try dsimp only)
  trivial
def digs : Array UInt8 := #[48, 49, 50, 51, 52, 53, 54, 55, 56, 57, 65, 66, 67, 68, 69, 70]
def lows : Array UInt8 := #[97, 98, 99, 100, 101, 102]
theorem place_all : ∀ n < 256, (if n < 97 then (if BB.findI digs #[UInt8.ofNat n] < 0 then hexD (n : Int) = none else hexD (n : Int) = some (BB.findI digs #[UInt8.ofNat n])) else
   (if 102 < n then hexD (n : Int) = none else (¬ BB.findI lows #[UInt8.ofNat n] + 10 < 0) ∧ hexD (n : Int) = some (BB.findI lows #[UInt8.ofNat n] + 10))) := by decide +kernel
theorem back_u8 (c : UInt8) : ((c.toNat : Int)).toNat.toUInt8 = c := by simp
theorem place_c (c : UInt8) : (if c.toNat < 97 then (if BB.findI digs #[c] < 0 then hexD (c.toNat : Int) = none else hexD (c.toNat : Int) = some (BB.findI digs #[c])) else
   (if 102 < c.toNat then hexD (c.toNat : Int) = none else (¬ BB.findI lows #[c] + 10 < 0) ∧ hexD (c.toNat : Int) = some (BB.findI lows #[c] + 10))) := by
  have := place_all c.toNat c.toNat_lt
  rw [show UInt8.ofNat c.toNat = c by simp] at this
  exact this
theorem place_c' (c : UInt8) : (if c.toNat < 97 then (if BB.findI #[48, 49, 50, 51, 52, 53, 54, 55, 56, 57, 65, 66, 67, 68, 69, 70] #[((c.toNat : Int)).toNat.toUInt8] < 0 then hexD (c.toNat : Int) = none else hexD (c.toNat : Int) = some (BB.findI #[48, 49, 50, 51, 52, 53, 54, 55, 56, 57, 65, 66, 67, 68, 69, 70] #[((c.toNat : Int)).toNat.toUInt8])) else
   (if 102 < c.toNat then hexD (c.toNat : Int) = none else (¬ BB.findI #[97, 98, 99, 100, 101, 102] #[((c.toNat : Int)).toNat.toUInt8] + 10 < 0) ∧ hexD (c.toNat : Int) = some (BB.findI #[97, 98, 99, 100, 101, 102] #[((c.toNat : Int)).toNat.toUInt8] + 10))) := by
  rw [back_u8]; exact place_c c
theorem hexAcc_bad {b : Array UInt8} {i : Nat} {c : UInt8} {n : Int} (hi : b[i]? = some c) (hn : hexAcc ((KBw.bInts b).take i) 0 = some n) (hD : hexD (c.toNat : Int) = none) : hexAcc (KBw.bInts b) 0 = none := by
  have hstep : (KBw.bInts b).take (i + 1) = (KBw.bInts b).take i ++ [(c.toNat : Int)] := by
    rw [List.take_add_one, KBw.ints_get hi]; rfl
  have e1 : hexAcc [(c.toNat : Int)] n = none := by
    show (match hexD _ with | none => none | some d => some (16 * n + d)) = none
    rw [hD]
  have e2 : hexAcc ((KBw.bInts b).take (i + 1)) 0 = none := by
    rw [hstep, hexAcc_append, hn]; exact e1
  rw [← List.take_append_drop (i + 1) (KBw.bInts b), hexAcc_append, e2]
theorem hexAcc_next {b : Array UInt8} {i : Nat} {c : UInt8} {n d : Int} (hi : b[i]? = some c) (hn : hexAcc ((KBw.bInts b).take i) 0 = some n) (hD : hexD (c.toNat : Int) = some d) : hexAcc ((KBw.bInts b).take (i + 1)) 0 = some (16 * n + d) := by
  rw [List.take_add_one, KBw.ints_get hi, hexAcc_append, hn]
  show (match hexD _ with | none => none | some d => some (16 * n + d)) = _
  rw [hD]
section
variable {w : World} {loose : List Str} {mean : ExcName → Option Value} {mg mb : Str → Option Value} {dp un : Nat} {gd : Option (List Code)} {cn : Str} {cs : Scope} {a : Addr} {ccd : Value} {cl : List (Str × Addr)} {outer : List Env} {A₀ : Around} {base h₀ : Heap} {L : Addr} {m : Str → Option Value} {s : Shared} {Q E : Value → Shared → Prop} {news : List (Addr × Obj)}
theorem rules35 : True := by
  k_with "getMethod bytes" => (k_here; first | (with_reducible refine BB.find_method ?_) | (with_reducible refine BB.strip_method ?_) | (with_reducible refine BB.split_method ?_) | (with_reducible refine BB.join_method ?_) | (with_reducible refine BB.starts_method ?_))
  k_with "call builtin:bytes.split" => (k_here; k_dflt (refine' split_K ?qqbsF ?qqbsN ?qqbsz ?qqbsc ?_; (case qqbsF => k_asm); (case qqbsN => k_asm); (case qqbsz => omega); (case qqbsc => rfl)); intro «D'✝» «h'✝» «vs'✝» «tk'✝» «hB'✝» «l1✝» «F'✝» «N'✝»; (try k_lt «l1✝»))
  k_with "call builtin:len" => (k_here; (with_reducible show wpAny _ _ (call (Value.builtin "len") [Value.ref _]) _ _ _); (rename News _ _ _ _ => «nX✝»); k_dflt (refine' lenB (News.isList (n := 0) «nX✝» ?qqlm) ?qqlB ?qqlz ?_; (case qqlm => k_mem); (case qqlB => assumption); (case qqlz => first | assumption | omega)); intro _ _)
  k_with "call builtin:bytes.find" => (k_here; (refine BB.find ?_); intro _ _)
  k_with "call builtin:bytes.startswith" => (k_here; (refine BB.starts ?_); intro _)
  trivial
set_option maxHeartbeats 8000000 in
theorem lcode_spec {b : Array UInt8} {tb : Tok} (B : Below A₀ base outer h₀) (F : Fr h₀ L s.heap m) (X : (hd.heap_39 w.params).In h₀) (N : News h₀ L s.heap news) (T : Top hd.view_39 loose mean mg mb h₀) (hk : cs.kind = .function)
    (hdp : dp + 40 < recursionLimit) (hu : un + 400 < cLine) (hz : b.size ≤ 1000)
    (retn : ∀ h' tk, fieldCode (KBw.bInts b) = none → Fr h₀ L h' m → News h₀ L h' news → Q .none { s with heap := h', toks := tk })
    (reti : ∀ n t h' tk, fieldCode (KBw.bInts b) = some n → Fr h₀ L h' m → News h₀ L h' news → Q (.int n t) { s with heap := h', toks := tk }) :
    wpAny (model PySem.Challenge.rw_nt0003_01.prog w) (ktrTop dp un gd cn cs L a ccd cl outer) (call (.ref 157) [.bytes b tb]) Q E s := by
  revert X; k_fill; intro X
  have hlen := KBw.ints_length b
  refine wpAny_call ?_
  k_dflt cell_enter
  k_steps
  · rename Fr _ _ _ _ => lF
    rename News _ _ _ _ => lN
    refine bytes_loop1 "found" ["sign", "place"] (fun i vy => ∃ n tn, vy = .int n tn ∧ hexAcc ((KBw.bInts b).take i) 0 = some n) rfl lF lN rfl ⟨0, _, rfl, rfl⟩ ?turn ?done
    case turn =>
      rintro i c u _ m₁ h tk own hi hoff ⟨n, tn, rfl, hn⟩ F1 N1
      have hc0 : (0 : Int) ≤ (c.toNat : Int) := by omega
      have hc1 : (c.toNat : Int) < 256 := by have := c.toNat_lt; omega
      have hP := place_c' c
      have hno : hexD (c.toNat : Int) = none → fieldCode (KBw.bInts b) = none := fun hD => by
        unfold fieldCode hexCode
        rw [hexAcc_bad hi hn hD]
        split <;> first | rfl | (split <;> rfl)
      k_steps
      all_goals first
        | (rename_i kF kN _ _
           refine retn _ _ (hno ?_) kF (fun p hp => kN p (.tail _ (List.mem_append_left _ hp)))
           first
             | (rw [if_pos (by omega), if_pos (by assumption)] at hP; exact hP)
             | (rw [if_neg (by omega), if_pos (by omega)] at hP; exact hP)
             | (rw [if_neg (by omega)] at hP; split at hP
                · exact hP
                · exact absurd (by assumption) hP.1))
        | (rename Fr _ _ _ _ => F2
           rename News _ _ _ _ => N2
           refine InvEndG.intro (nx := news) F2 N2 ?_ hoff (fun p hp => .tail _ (List.mem_append_left _ hp)) (fun p hp => .tail _ (List.mem_append_right _ hp))
           refine ⟨rfl, _, ⟨_, _, rfl, ?_⟩, rfl, fun z hz hst => ?_⟩
           · refine hexAcc_next hi hn ?_
             first
               | (rw [if_pos (by omega), if_neg (by assumption)] at hP; exact hP)
               | (rw [if_neg (by omega), if_neg (by omega)] at hP; exact hP.2)
           · have h1 : z ≠ ("sign" : Str) := fun e => by rw [e] at hst; revert hst; decide
             have h2 : z ≠ ("place" : Str) := fun e => by rw [e] at hst; revert hst; decide
             show (if z = _ then _ else _) = _
             rw [if_neg hz, if_neg h2, if_neg h1, if_neg hz, hst]
             rfl)
    case done =>
      rintro _ m₁ h tk ⟨n, tn, rfl, hn⟩ F1 N1
      rw [List.take_of_length_le (by omega)] at hn
      have hf : fieldCode (KBw.bInts b) = if 1114111 < n then none else some n := by
        unfold fieldCode hexCode
        rw [if_neg (by omega), if_neg (by omega), hn]
      k_steps
      · rename_i kF kN _ _
        exact reti _ _ _ _ (by rw [hf]; exact if_neg (by omega)) kF kN
      · rename_i kF kN _ _
        exact retn _ _ (by rw [hf]; exact if_pos (by omega)) kF kN
  · rename_i kF kN _ _
    exact retn _ _ (by unfold fieldCode hexCode; rw [if_neg (by omega), if_pos (by omega)]) kF kN
  · rename_i kF kN _ _
    exact retn _ _ (by unfold fieldCode; rw [if_pos (by omega)]) kF kN
end
end Mine
namespace Mine
theorem rules39 : True := by
  w_top off
  k_with_none
  k_with "execs cons" => (k_here; (try k_gentoks); (with_reducible refine execs_hide ?_); intro «Q✝» «k✝»; try dsimp only)
  trivial
inductive CAre : List Value → List (Array UInt8) → Prop
  | nil : CAre [] []
  | none (b' : Array UInt8) {vs : List Value} {bs : List (Array UInt8)} (h : fieldCode (KBw.bInts b') = none) (r : CAre vs bs) : CAre (.none :: vs) (b' :: bs)
  | int (b' : Array UInt8) (n : Int) (t : Tok) {vs : List Value} {bs : List (Array UInt8)} (h : fieldCode (KBw.bInts b') = some n) (r : CAre vs bs) : CAre (.int n t :: vs) (b' :: bs)
theorem CAre.append : ∀ {a b : List Value} {x y : List (Array UInt8)} (_ : CAre a x) (_ : CAre b y), CAre (a ++ b) (x ++ y)
  | _, _, _, _, .nil, h => h
  | _, _, _, _, .none b' h r, k => .none b' h (r.append k)
  | _, _, _, _, .int b' n t h r, k => .int b' n t h (r.append k)
theorem CAre.length : ∀ {a : List Value} {x : List (Array UInt8)} (_ : CAre a x), a.length = x.length
  | _, _, .nil => rfl
  | _, _, .none _ _ r => congrArg (· + 1) r.length
  | _, _, .int _ _ _ _ r => congrArg (· + 1) r.length
def isNoneV : Value → Bool
  | .none => true
  | _ => false
theorem in_none {prog : Program} {w : World} {A : Around} {E : Value → Shared → Prop} {s : Shared} {l : Addr} {xs : Array Value} {Q : Value → Shared → Prop} {r : Bool} (hl : s.heap.IsList l xs) (hx : ∀ y ∈ xs.toList, y = .none ∨ ∃ n t, y = .int n t) (hr : xs.toList.any isNoneV = r) (h : Q (.bool r) s) :
    wpAny (model prog w) A (compareOp .In .none (.ref l)) Q E s := by
  refine SeqAt.in_listAt isNoneV hl (fun y hy => ?_) (by rw [← Array.any_toList, hr]; exact h)
  rcases hx y (by simpa using hy) with rfl | ⟨n, t, rfl⟩
  · exact SeqAt.EqAt.same _
  · exact SeqAt.EqAt.int_none _ _
section
variable {w : World} {loose : List Str} {mean : ExcName → Option Value} {mg mb : Str → Option Value} {dp un : Nat} {gd : Option (List Code)} {cn : Str} {cs : Scope} {a : Addr} {ccd : Value} {cl : List (Str × Addr)} {outer : List Env} {A₀ : Around} {base h₀ : Heap} {L : Addr} {m : Str → Option Value} {s : Shared} {Q E : Value → Shared → Prop} {news : List (Addr × Obj)}
theorem rules37 : True := by
  k_with "getMethod bytes" => (k_here; first | (with_reducible refine BB.find_method ?_) | (with_reducible refine BB.strip_method ?_) | (with_reducible refine BB.split_method ?_) | (with_reducible refine BB.join_method ?_) | (with_reducible refine BB.starts_method ?_))
  k_with "call builtin:bytes.split" => (k_here; k_dflt (refine' split_K ?qqbsF ?qqbsN ?qqbsz ?qqbsc ?_; (case qqbsF => k_asm); (case qqbsN => k_asm); (case qqbsz => omega); (case qqbsc => rfl)); intro «D'✝» «h'✝» «vs'✝» «tk'✝» «hB'✝» «l1✝» «F'✝» «N'✝»; (try k_lt «l1✝»))
  k_with "call builtin:len" => (k_here; (with_reducible show wpAny _ _ (call (Value.builtin "len") [Value.ref _]) _ _ _); (rename News _ _ _ _ => «nX✝»); k_dflt (refine' lenB (News.isList (n := 0) «nX✝» ?qqlm) ?qqlB ?qqlz ?_; (case qqlm => k_mem); (case qqlB => assumption); (case qqlz => first | assumption | omega)); intro _ _)
  k_with "call builtin:bytes.find" => (k_here; (refine BB.find ?_); intro _ _)
  k_with "call builtin:bytes.startswith" => (k_here; (refine BB.starts ?_); intro _)
  k_with "eval ListComp" => (k_here; k_dflt (refine' LCg.ListComp_U (F₀ := ?qqa) ?qqb ?qqc ?qqd ?qqe ?qqf ?_; (case qqa => k_asm); (case qqb => rfl); (case qqc => decide); (case qqd => rfl); (case qqe => decide); (case qqf => rfl)))
  k_with "FinE" => ((unfold LCg.FinE); intro «D'✝» «h'✝» «tk'✝» «F'✝» «N'✝» «o1'✝»; (try simp only [LCg.Off1, and_true] at «o1'✝»); (try rw [lst_eq] at «N'✝»); (try dsimp only))
  k_with "exec Assign cons ListComp" => (k_here; k_dflt (refine' LCg.Assign_ListComp_U (F₀ := ?qqla) ?qqlb ?qqlc ?qqld ?qqle ?qqlf ?qqlg ?qqlh ?qqli ?qqlj ?_; (case qqla => k_asm); (case qqlb => rfl); (case qqlc => with_unfolding_all rfl); (case qqld => rfl); (case qqle => decide); (case qqlf => rfl); (case qqlg => decide); (case qqlh => rfl); (case qqli => rfl); (case qqlj => rfl)))
  k_with "FinA" => ((unfold LCg.FinA); intro «D'✝» «h'✝» «tk'✝» «F'✝» «N'✝» «o1'✝»; (try simp only [LCg.Off1, and_true] at «o1'✝»); (try rw [lst_eq] at «N'✝»); (try dsimp only))
  trivial
local macro_rules | `(tactic| walk_at "call ref") => `(tactic| (k_here; (with_reducible show wpAny _ _ (call (Value.ref 157) [Value.bytes _ _]) _ _ _); k_dflt (refine' lcode_spec ?B ?F ?X ?N ?T ?k ?d ?u ?z ?rn ?ri; (case B => k_asm); (case F => k_asm); (case X => k_asm); (case N => k_asm); (case T => k_asm); (case k => first | exact rfl | assumption); (case d => ktr_room); (case u => ktr_units); (case z => omega)); (case' rn => intro h' tk' hD' F' N'); (case' ri => intro n' t' h' tk' hD' F' N')))
theorem rules38 : True := by
  k_with "compareOp In none ref" => (k_here; (rename News _ _ _ _ => «nX✝»); k_dflt (first | (refine' in_none (r := true) (News.isList «nX✝» ?qqim) ?qqix ?qqir ?_; (case qqim => k_mem); (case qqix => simp); (case qqir => rfl)) | (refine' in_none (r := false) (News.isList «nX✝» ?qqim) ?qqix ?qqir ?_; (case qqim => k_mem); (case qqix => simp); (case qqir => rfl))))
  trivial
set_option maxHeartbeats 8000000 in
theorem lrange_spec {b : Array UInt8} {tb : Tok} (B : Below A₀ base outer h₀) (F : Fr h₀ L s.heap m) (X : (hd.heap_39 w.params).In h₀) (N : News h₀ L s.heap news) (T : Top hd.view_39 loose mean mg mb h₀) (hk : cs.kind = .function)
    (hdp : dp + 60 < recursionLimit) (hu : un + 600 < cLine) (hz : b.size ≤ 100)
    (retn : ∀ h' tk, rangeCode (BB.splitBy b #[46, 46]) = none → Fr h₀ L h' m → News h₀ L h' news → Q .none { s with heap := h', toks := tk })
    (rett : ∀ D x y tx ty h' tk, rangeCode (BB.splitBy b #[46, 46]) = some (x, y) → Fr h₀ L h' m → News h₀ L h' ((D, { cls := .type "tuple", data := .seq #[.int x tx, .int y ty] }) :: news) → Q (.ref D) { s with heap := h', toks := tk }) :
    wpAny (model PySem.Challenge.rw_nt0003_01.prog w) (ktrTop dp un gd cn cs L a ccd cl outer) (call (.ref 162) [.bytes b tb]) Q E s := by
  revert X; k_fill; intro X
  have hsl := split_le b #[46, 46]
  have hsp := split_pos b #[46, 46]
  have hsz := split_sz b #[46, 46]
  refine wpAny_call ?_
  k_dflt cell_enter
  k_steps
  rename BB.BAre _ _ => hB
  have hBl := hB.length
  k_dflt (refine' LCg.CompSrc.ledger ?ch ?cF ?cN ?cm ?cz ?_; (case cF => k_asm); (case cN => k_asm); (case cm => k_mem); (case ch => rfl); (case cz => (simp only [List.size_toArray]; rw [sizeLine_eq]; omega)))
  intro g
  refine compRest_ind (fun i ys nw => nw = _ ∧ CAre ys ((BB.splitBy b #[46, 46]).take i)) ?turn ?fin _ 0 [] _ (Nat.zero_add _) ⟨rfl, .nil⟩
  case turn =>
    rintro i ys news' v I oI C1 oC D1 m₂ h tk E' hi ⟨rfl, hys⟩ hv hC hx F1 N1 off ne
    obtain ⟨bi, t, rfl, hzi, hbi, htk⟩ := bare_at hB hv hsz
    k_steps
    · rename Fr _ _ _ _ => F2
      rename News _ _ _ _ => N2
      rename fieldCode _ = some _ => hD
      exact LCg.CompEnd.intro F2 N2 ((_, _) :: news) (fun _ h => h) off (.inr ⟨_, .head _, rfl, _, rfl⟩) ⟨rfl, by rw [htk]; exact hys.append (.int _ _ _ hD .nil)⟩
    · rename Fr _ _ _ _ => F2
      rename News _ _ _ _ => N2
      rename fieldCode _ = none => hD
      exact LCg.CompEnd.intro F2 N2 ((_, _) :: news) (fun _ h => h) off (.inr ⟨_, .head _, rfl, _, rfl⟩) ⟨rfl, by rw [htk]; exact hys.append (.none _ hD .nil)⟩
  case fin =>
    rintro ys news' ⟨rfl, hys⟩
    rw [List.take_of_length_le (by rw [← hBl]; simp)] at hys
    clear hsz hBl hB
    generalize BB.splitBy b #[46, 46] = bs at *
    have big : ∀ x y z r, bs = x :: y :: z :: r → rangeCode bs = none := fun x y z r e => by
      rw [e]; unfold rangeCode; rw [if_pos (by simp)]
    have one : ∀ x, bs = [x] → rangeCode bs = match fieldCode (KBw.bInts x) with | some a => some (a, a) | none => none := fun x e => by
      rw [e]; unfold rangeCode; rw [if_neg (by simp)]
      show (match fieldCode (KBw.bInts x), fieldCode (KBw.bInts x) with | some a, some b => if b < a then none else some (a, b) | _, _ => none) = _
      cases fieldCode (KBw.bInts x) with
      | none => rfl
      | some a => exact if_neg (Int.lt_irrefl a)
    have two : ∀ x y, bs = [x, y] → rangeCode bs = match fieldCode (KBw.bInts x), fieldCode (KBw.bInts y) with | some a, some b => if b < a then none else some (a, b) | _, _ => none := fun x y e => by
      rw [e]; unfold rangeCode; rw [if_neg (by simp)]; rfl
    by_cases h3 : 2 < bs.length
    · have hyl := hys.length
      k_steps
      rename News _ _ _ _ => nX
      refine len_list (News.isList nX (.head _)) (by simp only [List.size_toArray]; omega) ?_
      have hgt : (2 : Int) < (ys.toArray.size : Nat) := by simp only [List.size_toArray]; omega
      k_steps
      all_goals
        rename_i kF kN _ _
        exact retn _ _ (by unfold rangeCode; rw [if_pos h3]) kF (fun p hp => kN p (.tail _ (.tail _ hp)))
    cases hys with
    | nil => exact absurd hsp (by simp)
    | none b0 h0 r0 =>
      cases r0 with
      | nil =>
        k_steps
        all_goals
          rename_i kF kN _ _
          first
            | (refine retn _ _ ?_ kF (fun p hp => kN p (.tail _ (.tail _ hp))); rw [one _ rfl, h0]; done)
            | (refine retn _ _ ?_ kF (fun p hp => kN p (.tail _ (.tail _ hp))); rw [one _ rfl, h0]; exact if_pos (by assumption))
            | exact absurd (by assumption) (Int.lt_irrefl n0)
            | exact rett _ n0 _ _ _ _ _ (by rw [one _ rfl, h0]; try exact if_neg (by assumption)) kF (fun p hp => kN p (by
                rcases List.mem_cons.mp hp with h | h
                · exact h ▸ .head _
                · exact .tail _ (.tail _ (.tail _ h))))
      | none b1 h1 r1 =>
        cases r1 with
        | nil =>
          k_steps
          all_goals
            rename_i kF kN _ _
            first
              | (refine retn _ _ ?_ kF (fun p hp => kN p (.tail _ (.tail _ hp))); rw [two _ _ rfl, h0, h1]; done)
              | (refine retn _ _ ?_ kF (fun p hp => kN p (.tail _ (.tail _ hp))); rw [two _ _ rfl, h0, h1]; exact if_pos (by assumption))
              | exact absurd (by assumption) (Int.lt_irrefl n0)
              | exact rett _ n0 _ _ _ _ _ (by rw [two _ _ rfl, h0, h1]; try exact if_neg (by assumption)) kF (fun p hp => kN p (by
                  rcases List.mem_cons.mp hp with h | h
                  · exact h ▸ .head _
                  · exact .tail _ (.tail _ (.tail _ h))))
        | _ => exact absurd (by simp only [List.length_cons]; omega) h3
      | int b1 n1 t1 h1 r1 =>
        cases r1 with
        | nil =>
          k_steps
          all_goals
            rename_i kF kN _ _
            first
              | (refine retn _ _ ?_ kF (fun p hp => kN p (.tail _ (.tail _ hp))); rw [two _ _ rfl, h0, h1]; done)
              | (refine retn _ _ ?_ kF (fun p hp => kN p (.tail _ (.tail _ hp))); rw [two _ _ rfl, h0, h1]; exact if_pos (by assumption))
              | exact absurd (by assumption) (Int.lt_irrefl n0)
              | exact rett _ n0 _ _ _ _ _ (by rw [two _ _ rfl, h0, h1]; try exact if_neg (by assumption)) kF (fun p hp => kN p (by
                  rcases List.mem_cons.mp hp with h | h
                  · exact h ▸ .head _
                  · exact .tail _ (.tail _ (.tail _ h))))
        | _ => exact absurd (by simp only [List.length_cons]; omega) h3
    | int b0 n0 t0 h0 r0 =>
      cases r0 with
      | nil =>
        k_steps
        all_goals
          rename_i kF kN _ _
          first
            | (refine retn _ _ ?_ kF (fun p hp => kN p (.tail _ (.tail _ hp))); rw [one _ rfl, h0]; done)
            | (refine retn _ _ ?_ kF (fun p hp => kN p (.tail _ (.tail _ hp))); rw [one _ rfl, h0]; exact if_pos (by assumption))
            | exact absurd (by assumption) (Int.lt_irrefl n0)
            | exact rett _ n0 _ _ _ _ _ (by rw [one _ rfl, h0]; try exact if_neg (by assumption)) kF (fun p hp => kN p (by
                rcases List.mem_cons.mp hp with h | h
                · exact h ▸ .head _
                · exact .tail _ (.tail _ (.tail _ h))))
      | none b1 h1 r1 =>
        cases r1 with
        | nil =>
          k_steps
          all_goals
            rename_i kF kN _ _
            first
              | (refine retn _ _ ?_ kF (fun p hp => kN p (.tail _ (.tail _ hp))); rw [two _ _ rfl, h0, h1]; done)
              | (refine retn _ _ ?_ kF (fun p hp => kN p (.tail _ (.tail _ hp))); rw [two _ _ rfl, h0, h1]; exact if_pos (by assumption))
              | exact absurd (by assumption) (Int.lt_irrefl n0)
              | exact rett _ n0 _ _ _ _ _ (by rw [two _ _ rfl, h0, h1]; try exact if_neg (by assumption)) kF (fun p hp => kN p (by
                  rcases List.mem_cons.mp hp with h | h
                  · exact h ▸ .head _
                  · exact .tail _ (.tail _ (.tail _ h))))
        | _ => exact absurd (by simp only [List.length_cons]; omega) h3
      | int b1 n1 t1 h1 r1 =>
        cases r1 with
        | nil =>
          k_steps
          all_goals
            rename_i kF kN _ _
            first
              | (refine retn _ _ ?_ kF (fun p hp => kN p (.tail _ (.tail _ hp))); rw [two _ _ rfl, h0, h1]; done)
              | (refine retn _ _ ?_ kF (fun p hp => kN p (.tail _ (.tail _ hp))); rw [two _ _ rfl, h0, h1]; exact if_pos (by assumption))
              | exact absurd (by assumption) (Int.lt_irrefl n0)
              | exact rett _ n0 _ _ _ _ _ (by rw [two _ _ rfl, h0, h1]; try exact if_neg (by assumption)) kF (fun p hp => kN p (by
                  rcases List.mem_cons.mp hp with h | h
                  · exact h ▸ .head _
                  · exact .tail _ (.tail _ (.tail _ h))))
        | _ => exact absurd (by simp only [List.length_cons]; omega) h3
end
end Mine
namespace Mine
theorem rules40 : True := by
  w_top off
  k_with_none
  k_with "execs cons" => (k_here; (try k_gentoks); (with_reducible refine execs_hide ?_); intro «Q✝» «k✝»; try dsimp only)
  trivial
theorem dropWhile_drop {α : Type} (p : α → Bool) (d : α) : ∀ (L : List α) (l : Nat), (∀ i, i < l → p (L.getD i d) = true) → l ≤ L.length → (l = L.length ∨ p (L.getD l d) = false) → L.dropWhile p = L.drop l
  | [], l, _, hl, _ => by simp
  | x :: L, 0, _, _, h => by
    rcases h with h | h
    · exact absurd h (by simp)
    · have : p x = false := by simpa using h
      simp [List.dropWhile, this]
  | x :: L, l + 1, h1, hl, h => by
    have hx : p x = true := by simpa using h1 0 (Nat.succ_pos _)
    rw [List.dropWhile_cons, if_pos hx, List.drop_succ_cons]
    refine dropWhile_drop p d L l (fun i hi => ?_) (by simpa using hl) ?_
    · simpa using h1 (i + 1) (by omega)
    · rcases h with h | h
      · exact .inl (by simpa using h)
      · exact .inr (by simpa using h)
theorem dropWhile_all {α : Type} (p : α → Bool) : ∀ (X Y : List α), (∀ x ∈ X, p x = true) → (X ++ Y).dropWhile p = Y.dropWhile p
  | [], Y, _ => rfl
  | x :: X, Y, h => by
    rw [List.cons_append, List.dropWhile_cons, if_pos (h x (List.mem_cons_self ..))]
    exact dropWhile_all p X Y fun y hy => h y (List.mem_cons_of_mem _ hy)
theorem dropWhile_head {α : Type} (p : α → Bool) (X : List α) (h : ∀ x, X.head? = some x → p x = false) : X.dropWhile p = X := by
  cases X with
  | nil => rfl
  | cons x X => rw [List.dropWhile_cons, if_neg (by rw [h x rfl]; decide)]
theorem strip_mid (p : UInt8 → Bool) (L : List UInt8) (l r : Nat) (hlr : l ≤ r) (hr : r ≤ L.length) (h1 : ∀ i, i < l → p (L.getD i 0) = true) (h2 : l = L.length ∨ p (L.getD l 0) = false)
    (h3 : ∀ i, r ≤ i → i < L.length → p (L.getD i 0) = true) (h4 : r = l ∨ p (L.getD (r - 1) 0) = false) : ((L.dropWhile p).reverse.dropWhile p).reverse = (L.drop l).take (r - l) := by
  rw [dropWhile_drop p 0 L l h1 (by omega) h2]
  have e : L.drop l = (L.drop l).take (r - l) ++ (L.drop l).drop (r - l) := (List.take_append_drop _ _).symm
  have hall : ∀ x ∈ ((L.drop l).drop (r - l)).reverse, p x = true := fun x hx => by
    rw [List.mem_reverse, List.drop_drop] at hx
    obtain ⟨i, hi, rfl⟩ := List.mem_iff_getElem.mp hx
    rw [List.length_drop] at hi
    rw [List.getElem_drop]
    have := h3 (l + (r - l) + i) (by omega) (by omega)
    rw [List.getD_eq_getElem?_getD, List.getElem?_eq_getElem (by omega)] at this
    exact this
  have : (L.drop l).reverse.dropWhile p = ((L.drop l).take (r - l)).reverse := by
    conv => lhs; rw [e, List.reverse_append, dropWhile_all p _ _ hall]
    refine dropWhile_head p _ fun x hx => ?_
    rw [List.head?_reverse, List.getLast?_eq_getElem?] at hx
    have hlen : ((L.drop l).take (r - l)).length = r - l := by rw [List.length_take, List.length_drop]; omega
    rw [hlen] at hx
    rcases h4 with h4 | h4
    · subst h4
      simp at hx
    · have hlt : r - l - 1 < r - l := by
        rcases Nat.lt_or_ge 0 (r - l) with h | h
        · omega
        · have e0 : r - l = 0 := by omega
          rw [e0] at hx; simp at hx
      rw [List.getElem?_take, if_pos hlt, List.getElem?_drop] at hx
      have : l + (r - l - 1) = r - 1 := by omega
      rw [this] at hx
      rw [List.getD_eq_getElem?_getD, hx] at h4
      exact h4
  rw [this, List.reverse_reverse]
theorem picked_strip {b : Array UInt8} {l r : Nat} (hlr : l ≤ r) (hr : r ≤ b.size) (h1 : ∀ i, i < l → blankSet.toList.contains (b.toList.getD i 0) = true) (h2 : l = b.size ∨ blankSet.toList.contains (b.toList.getD l 0) = false)
    (h3 : ∀ i, r ≤ i → i < b.size → blankSet.toList.contains (b.toList.getD i 0) = true) (h4 : r = l ∨ blankSet.toList.contains (b.toList.getD (r - 1) 0) = false) : KBy.picked b (some (l : Int)) (some (r : Int)) = BB.stripBy blankSet b := by
  rw [KBc.picked_eq]
  show ((b.toList.drop (clipAt b.size (l : Int))).take (clipAt b.size (r : Int) - clipAt b.size (l : Int))).toArray = _
  rw [clipAt_nat, clipAt_nat, Nat.min_eq_left hr, Nat.min_eq_left (show l ≤ b.size by omega)]
  unfold BB.stripBy
  rw [strip_mid _ b.toList l r hlr (by simpa using hr) h1 (by simpa using h2) (by simpa using h3) h4]
end Mine
namespace Mine
theorem rules42 : True := by
  w_top off
  k_with_none
  k_with "execs cons" => (k_here; (try k_gentoks); (with_reducible refine execs_hide ?_); intro «Q✝» «k✝»; try dsimp only)
  trivial
section
variable {prog : Program} {w : World} {A : Around} {E : Value → Shared → Prop} {Q : Flow → Shared → Prop} {s : Shared} {env : Env} {h₀ : Heap} {L : Addr}
theorem while_loop1 {test : Expr} {body : List Stmt} {pos : Pos} {m₀ : Str → Option Value} {news : List (Addr × Obj)} (y : Str) (P : Nat → Value → Prop) {n₀ : Nat} {v0 : Value}
    (F : Fr h₀ L s.heap m₀) (N : News h₀ L s.heap news) (hv0 : m₀ y = some v0) (h0 : P n₀ v0)
    (turn : ∀ n vy h tk, P n vy → Fr h₀ L h (fun z => if z = y then some vy else m₀ z) → News h₀ L h news →
      wpAny (model prog w) A (isTrue test env (eval test env)) (fun b s₂ =>
        if b = true then wpAny (model prog w) A (execs body env) (WhileStep h₀ L s (fun n' m' nx => nx = news ∧ ∃ vy', P n' vy' ∧ m' y = some vy' ∧ ∀ z, z ≠ y → m' z = m₀ z) n) E s₂ else Q .next s₂) E { s with heap := h, toks := tk })
    (hE : PassesOwn (model prog w) A env E := by passes_own) :
    wpAny (model prog w) A (exec (.While test body [] pos) env) Q E s := by
  refine While_inv (fun n' m' nx => nx = news ∧ ∃ vy', P n' vy' ∧ m' y = some vy' ∧ ∀ z, z ≠ y → m' z = m₀ z) F N ⟨rfl, v0, h0, hv0, fun _ _ => rfl⟩ ?_ hE
  rintro n m₁ news₁ h₁ tk₁ F₁ N₁ ⟨rfl, vy, hP, hm, hz⟩
  refine turn n vy h₁ tk₁ hP (fr_eq F₁ fun z => ?_) N₁
  by_cases q : z = y
  · rw [if_pos q, q, hm]
  · rw [if_neg q, hz z q]
theorem byte_at {value slice : Expr} {b : Array UInt8} {t : Tok} {k : Int} {u : Tok} {Q : Value → Shared → Prop} (h0 : 0 ≤ k) (h1 : k.toNat < b.size) (hz : b.size ≤ 16777216) (h : ∀ t' k', Q (.int (b.toList.getD k.toNat 0).toNat t') { s with toks := k' })
    (hs : subscripted slice false (.bytes b t) (.int k u) = operate [.bytes b t, .int k u] (getItem (.bytes b t) (.int k u)) := by with_unfolding_all rfl)
    (ht : ∀ r, letTemporaryGo value (.bytes b t) r = pure () := by intro _; with_unfolding_all rfl) :
    wpAny (model prog w) A (subscriptTail value slice (.bytes b t) (.int k u)) Q E s := by
  refine KBw.item_K (ks := KBw.bInts b) rfl (by rw [KBw.ints_length]; omega) h0 (by rw [KBw.ints_length]; omega) (fun t' k' _ _ => ?_) hs ht
  rw [show (KBw.bInts b).getD k.toNat 0 = ((b.toList.getD k.toNat 0).toNat : Int) from (KBw.getD_ints b.toList k.toNat).symm]
  exact h t' k'
end
theorem blank_eq (x : UInt8) : (([32, 9, 13] : List Int).any fun y => y == (x.toNat : Int)) = blankSet.toList.contains x := by
  have key : ∀ n : Nat, n < 256 → (([32, 9, 13] : List Int).any fun y => y == (n : Int)) = blankSet.toList.contains (UInt8.ofNat n) := by decide +kernel
  have := key x.toNat x.toNat_lt
  rwa [show UInt8.ofNat x.toNat = x by simp] at this
/-- a loop that is left to be done by hand -/
def LoopHere (M : Model) (A : Around) (st : Stmt) (env : Env) (Q : Flow → Shared → Prop) (E : Value → Shared → Prop) (s : Shared) : Prop := wpAny M A (exec st env) Q E s
theorem loop_here {M : Model} {A : Around} {st : Stmt} {env : Env} {Q : Flow → Shared → Prop} {E : Value → Shared → Prop} {s : Shared} (h : LoopHere M A st env Q E s) : wpAny M A (exec st env) Q E s := h
section
variable {w : World} {loose : List Str} {mean : ExcName → Option Value} {mg mb : Str → Option Value} {dp un : Nat} {gd : Option (List Code)} {cn : Str} {cs : Scope} {a : Addr} {ccd : Value} {cl : List (Str × Addr)} {outer : List Env} {A₀ : Around} {base h₀ : Heap} {L : Addr} {m : Str → Option Value} {s : Shared} {Q E : Value → Shared → Prop} {news : List (Addr × Obj)}
theorem rules41 : True := by
  k_with "getMethod bytes" => (k_here; first | (with_reducible refine BB.find_method ?_) | (with_reducible refine BB.strip_method ?_) | (with_reducible refine BB.split_method ?_) | (with_reducible refine BB.join_method ?_) | (with_reducible refine BB.starts_method ?_))
  k_with "call builtin:bytes.split" => (k_here; k_dflt (refine' split_K ?qqbsF ?qqbsN ?qqbsz ?qqbsc ?_; (case qqbsF => k_asm); (case qqbsN => k_asm); (case qqbsz => omega); (case qqbsc => rfl)); intro «D'✝» «h'✝» «vs'✝» «tk'✝» «hB'✝» «l1✝» «F'✝» «N'✝»; (try k_lt «l1✝»))
  k_with "call builtin:len" => (k_here; (with_reducible show wpAny _ _ (call (Value.builtin "len") [Value.ref _]) _ _ _); (rename News _ _ _ _ => «nX✝»); k_dflt (refine' lenB (News.isList (n := 0) «nX✝» ?qqlm) ?qqlB ?qqlz ?_; (case qqlm => k_mem); (case qqlB => assumption); (case qqlz => first | assumption | omega)); intro _ _)
  k_with "call builtin:bytes.find" => (k_here; (refine BB.find ?_); intro _ _)
  k_with "call builtin:bytes.startswith" => (k_here; (refine BB.starts ?_); intro _)
  k_with "eval ListComp" => (k_here; k_dflt (refine' LCg.ListComp_U (F₀ := ?qqa) ?qqb ?qqc ?qqd ?qqe ?qqf ?_; (case qqa => k_asm); (case qqb => rfl); (case qqc => decide); (case qqd => rfl); (case qqe => decide); (case qqf => rfl)))
  k_with "FinE" => ((unfold LCg.FinE); intro «D'✝» «h'✝» «tk'✝» «F'✝» «N'✝» «o1'✝»; (try simp only [LCg.Off1, and_true] at «o1'✝»); (try rw [lst_eq] at «N'✝»); (try dsimp only))
  k_with "exec Assign cons ListComp" => (k_here; k_dflt (refine' LCg.Assign_ListComp_U (F₀ := ?qqla) ?qqlb ?qqlc ?qqld ?qqle ?qqlf ?qqlg ?qqlh ?qqli ?qqlj ?_; (case qqla => k_asm); (case qqlb => rfl); (case qqlc => with_unfolding_all rfl); (case qqld => rfl); (case qqle => decide); (case qqlf => rfl); (case qqlg => decide); (case qqlh => rfl); (case qqli => rfl); (case qqlj => rfl)))
  k_with "FinA" => ((unfold LCg.FinA); intro «D'✝» «h'✝» «tk'✝» «F'✝» «N'✝» «o1'✝»; (try simp only [LCg.Off1, and_true] at «o1'✝»); (try rw [lst_eq] at «N'✝»); (try dsimp only))
  k_with "exec While BoolOp" => (k_here; refine loop_here ?_)
  k_with "subscriptTail" => (k_here; (with_reducible show wpAny _ _ (subscriptTail _ _ (Value.bytes _ _) (Value.int _ _)) _ _ _); k_dflt (refine' byte_at ?qqby0 ?qqby1 ?qqbyz ?_; (case qqby0 => omega); (case qqby1 => omega); (case qqbyz => omega)); intro _ _)
  k_with "exec While" => (k_here; refine loop_here ?_)
  k_with "subscriptTail" => (k_here; (with_reducible show wpAny _ _ (subscriptTail _ (Expr.Slice _ _ none _) (Value.bytes _ _) (Value.ref _)) _ _ _); (with_reducible rename Fr _ _ _ _ => «F'✝»); (with_reducible rename News _ _ _ _ => «N'✝»); (refine KBc.slice_K (s := ⟨_, _, _, _, _⟩) «F'✝» «N'✝» rfl (by constructor) (by constructor) (by rw [KBw.ints_length]; omega) ?_); intro «h'✝» «t'✝» «k'✝» «F'✝» «N'✝» _)
  trivial
set_option maxHeartbeats 8000000 in
theorem bare_spec {b : Array UInt8} {tb : Tok} (B : Below A₀ base outer h₀) (F : Fr h₀ L s.heap m) (X : (hd.heap_39 w.params).In h₀) (N : News h₀ L s.heap news) (T : Top hd.view_39 loose mean mg mb h₀) (hk : cs.kind = .function)
    (hdp : dp + 40 < recursionLimit) (hu : un + 400 < cLine) (hz : b.size ≤ 10000)
    (ret : ∀ t h' tk, Fr h₀ L h' m → News h₀ L h' news → Q (.bytes (BB.stripBy blankSet b) t) { s with heap := h', toks := tk }) :
    wpAny (model PySem.Challenge.rw_nt0003_01.prog w) (ktrTop dp un gd cn cs L a ccd cl outer) (call (.ref 140) [.bytes b tb]) Q E s := by
  revert X; k_fill; intro X
  refine wpAny_call ?_
  k_dflt cell_enter
  k_steps
  rename Fr _ _ _ _ => lF
  rename News _ _ _ _ => lN
  refine while_loop1 "low" (fun n vy => ∃ (l : Nat) (t : Tok), vy = .int (l : Int) t ∧ n + l = b.size ∧ ∀ i, i < l → blankSet.toList.contains (b.toList.getD i 0) = true) (n₀ := b.size) lF lN rfl ⟨0, _, rfl, rfl, fun i hi => absurd hi (Nat.not_lt_zero _)⟩ ?_
  rintro n _ h tk ⟨l, t, rfl, hl, hbl⟩ F1 N1
  k_steps
  · rename Fr _ _ _ _ => F2
    rename News _ _ _ _ => N2
    rename _ = true => hin
    refine WhileStep.intro (n' := n - 1) F2 (news_tail N2) (by omega) ⟨rfl, _, ⟨l + 1, _, rfl, by omega, fun i hi => ?_⟩, rfl, fun z hz => ?_⟩
    · rcases Nat.lt_succ_iff_lt_or_eq.mp hi with hi | rfl
      · exact hbl i hi
      · rw [← blank_eq]; exact hin
    · show (if z = _ then _ else _) = _
      rw [if_neg hz, if_neg hz]
  · rename _ = false => hin
    have hstop : l = b.size ∨ blankSet.toList.contains (b.toList.getD l 0) = false := .inr (by rw [← blank_eq]; exact hin)
    have hlb : l ≤ b.size := by omega
    rename Fr _ _ _ _ => lF2
    rename News _ _ _ _ => lN2
    refine while_loop1 "high" (fun n vy => ∃ (r : Nat) (t : Tok), vy = .int (r : Int) t ∧ n = r ∧ l ≤ r ∧ r ≤ b.size ∧ ∀ i, r ≤ i → i < b.size → blankSet.toList.contains (b.toList.getD i 0) = true) (n₀ := b.size) lF2 lN2 rfl ⟨b.size, _, rfl, rfl, hlb, Nat.le_refl _, fun i h1 h2 => absurd h2 (by omega)⟩ ?_
    rintro n1 _ h1 tk1 ⟨r, t1, rfl, rfl, hlr, hrb, hbr⟩ F3 N3
    k_steps
    · rename Fr _ _ _ _ => F4
      rename News _ _ _ _ => N4
      rename _ = true => hin2
      refine WhileStep.intro (n' := n1 - 1) F4 (news_tail N4) (by omega) ⟨rfl, _, ⟨n1 - 1, _, by congr 1; omega, rfl, by omega, by omega, fun i h1 h2 => ?_⟩, rfl, fun z hz => ?_⟩
      · by_cases hi : i = n1 - 1
        · have e : ((n1 : Int) - 1).toNat = i := by omega
          rw [← blank_eq, ← e]; exact hin2
        · exact hbr i (by omega) h2
      · show (if z = _ then _ else _) = _
        rw [if_neg hz, if_neg hz]
    · rename _ = false => hin2
      rename_i kF kN _ _
      have e : ((n1 : Int) - 1).toNat = n1 - 1 := by omega
      rw [picked_strip hlr hrb hbl hstop hbr (.inr (by rw [← blank_eq, ← e]; exact hin2))]
      exact ret _ _ _ kF (fun p hp => kN p (by repeat (first | exact hp | refine List.mem_cons_of_mem _ ?_)))
    · rename_i kF kN _ _
      rw [picked_strip hlr hrb hbl hstop hbr (.inl (by omega))]
      exact ret _ _ _ kF (fun p hp => kN p (by repeat (first | exact hp | refine List.mem_cons_of_mem _ ?_)))
  · have hstop : l = b.size ∨ blankSet.toList.contains (b.toList.getD l 0) = false := .inl (by omega)
    have hlb : l ≤ b.size := by omega
    rename Fr _ _ _ _ => lF2
    rename News _ _ _ _ => lN2
    refine while_loop1 "high" (fun n vy => ∃ (r : Nat) (t : Tok), vy = .int (r : Int) t ∧ n = r ∧ l ≤ r ∧ r ≤ b.size ∧ ∀ i, r ≤ i → i < b.size → blankSet.toList.contains (b.toList.getD i 0) = true) (n₀ := b.size) lF2 lN2 rfl ⟨b.size, _, rfl, rfl, hlb, Nat.le_refl _, fun i h1 h2 => absurd h2 (by omega)⟩ ?_
    rintro n1 _ h1 tk1 ⟨r, t1, rfl, rfl, hlr, hrb, hbr⟩ F3 N3
    k_steps
    rename_i kF kN _ _
    rw [picked_strip hlr hrb hbl hstop hbr (.inl (by omega))]
    exact ret _ _ _ kF (fun p hp => kN p (by repeat (first | exact hp | refine List.mem_cons_of_mem _ ?_)))
end
end Mine
namespace Mine
theorem rules43 : True := by
  w_top off
  k_with_none
  k_with "execs cons" => (k_here; (try k_gentoks); (with_reducible refine execs_hide ?_); intro «Q✝» «k✝»; try dsimp only)
  trivial
/-! rows: plain functions -/
abbrev Row := Int × List (Array UInt8) × Option (Array UInt8)
def cutB (b : Array UInt8) : Int := BB.findI b #[35]
def preB (b : Array UInt8) : Array UInt8 := if cutB b < 0 then b else KBy.picked b none (some (cutB b))
def postB (b : Array UInt8) : Array UInt8 := if cutB b < 0 then #[] else KBy.picked b (some (cutB b + 1)) none
def barB (b : Array UInt8) : Array UInt8 := BB.stripBy blankSet b
def fieldsB (b : Array UInt8) : List (Array UInt8) := (BB.splitBy b #[59]).map barB
/-- what a line says as a row -/
def rowB (b : Array UInt8) : Option (List (Array UInt8) × Option (Array UInt8)) :=
  if (barB (preB b)).toList != ([] : List UInt8) then some (fieldsB (preB b), some (barB (postB b))) else none
def lmissB (b : Array UInt8) : Option (List (Array UInt8) × Option (Array UInt8)) :=
  if 0 ≤ cutB b ∧ (barB (preB b)).toList = ([] : List UInt8) ∧ (KBy.picked (barB (postB b)) none (some 9)).toList = missB.toList then some (fieldsB (KBy.picked (barB (postB b)) (some 9) none), none) else none
def pmissB (b : Array UInt8) : Option (List (Array UInt8) × Option (Array UInt8)) :=
  if 0 ≤ cutB b ∧ (barB (preB b)).toList = ([] : List UInt8) ∧ BB.startsB (barB (postB b)) missB = true then some (fieldsB (preB (KBy.picked (barB (postB b)) (some 9) none)), none) else none
def rowsAt (f : Array UInt8 → Option (List (Array UInt8) × Option (Array UInt8))) : Nat → List (Array UInt8) → List Row
  | _, [] => []
  | i, b :: r => match f b with
    | some (fs, rm) => ((i : Int) + 1, fs, rm) :: rowsAt f (i + 1) r
    | none => rowsAt f (i + 1) r
theorem rowsAt_append (f : Array UInt8 → Option (List (Array UInt8) × Option (Array UInt8))) : ∀ (a c : List (Array UInt8)) (i : Nat), rowsAt f i (a ++ c) = rowsAt f i a ++ rowsAt f (i + a.length) c
  | [], c, i => by simp [rowsAt]
  | b :: a, c, i => by
    have e : i + 1 + a.length = i + (a.length + 1) := by omega
    rw [List.cons_append]
    show (match f b with | some (fs, rm) => ((i : Int) + 1, fs, rm) :: rowsAt f (i + 1) (a ++ c) | none => rowsAt f (i + 1) (a ++ c)) = (match f b with | some (fs, rm) => ((i : Int) + 1, fs, rm) :: rowsAt f (i + 1) a | none => rowsAt f (i + 1) a) ++ _
    rw [List.length_cons]
    cases f b with
    | none => rw [rowsAt_append f a c (i + 1), e]
    | some p => simp only [List.cons_append]; rw [rowsAt_append f a c (i + 1), e]
theorem rowsAt_some {f : Array UInt8 → Option (List (Array UInt8) × Option (Array UInt8))} {bs : List (Array UInt8)} {i : Nat} {b : Array UInt8} {fs rm} (ht : bs.take (i + 1) = bs.take i ++ [b]) (hi : i ≤ bs.length) (h : f b = some (fs, rm)) :
    rowsAt f 0 (bs.take (i + 1)) = rowsAt f 0 (bs.take i) ++ [((i : Int) + 1, fs, rm)] := by
  rw [ht, rowsAt_append, List.length_take, Nat.min_eq_left hi, Nat.zero_add]
  simp [rowsAt, h]
theorem rowsAt_none {f : Array UInt8 → Option (List (Array UInt8) × Option (Array UInt8))} {bs : List (Array UInt8)} {i : Nat} {b : Array UInt8} (ht : bs.take (i + 1) = bs.take i ++ [b]) (hi : i ≤ bs.length) (h : f b = none) :
    rowsAt f 0 (bs.take (i + 1)) = rowsAt f 0 (bs.take i) := by
  rw [ht, rowsAt_append, List.length_take, Nat.min_eq_left hi, Nat.zero_add]
  simp [rowsAt, h]
/-! rows in the heap -/
abbrev tupObj (vs : Array Value) : Obj := { cls := .type "tuple", data := .seq vs }
inductive RowIn (news : List (Addr × Obj)) : Value → Row → Prop
  | two {T F : Addr} {t : Tok} {vs : List Value} {k : Nat} {n : Int} {fs : List (Array UInt8)} (h1 : (T, tupObj #[.int n t, .ref F]) ∈ news) (h2 : (F, listOf vs.toArray k) ∈ news) (h3 : BB.BAre vs fs) : RowIn news (.ref T) (n, fs, none)
  | three {T F : Addr} {t u : Tok} {vs : List Value} {k : Nat} {n : Int} {fs : List (Array UInt8)} {b : Array UInt8} (h1 : (T, tupObj #[.int n t, .ref F, .bytes b u]) ∈ news) (h2 : (F, listOf vs.toArray k) ∈ news) (h3 : BB.BAre vs fs) : RowIn news (.ref T) (n, fs, some b)
inductive RowsIn (news : List (Addr × Obj)) : List Value → List Row → Prop
  | nil : RowsIn news [] []
  | cons {v vs r rs} (h : RowIn news v r) (hs : RowsIn news vs rs) : RowsIn news (v :: vs) (r :: rs)
theorem RowIn.mono {news news' : List (Addr × Obj)} {v : Value} {r : Row} (h : RowIn news v r) (hs : ∀ p ∈ news, p ∈ news') : RowIn news' v r := by
  cases h with
  | two h1 h2 h3 => exact .two (hs _ h1) (hs _ h2) h3
  | three h1 h2 h3 => exact .three (hs _ h1) (hs _ h2) h3
theorem RowsIn.mono {news news' : List (Addr × Obj)} {vs : List Value} {rs : List Row} (h : RowsIn news vs rs) (hs : ∀ p ∈ news, p ∈ news') : RowsIn news' vs rs := by
  induction h with
  | nil => exact .nil
  | cons h _ ih => exact .cons (h.mono hs) ih
theorem RowsIn.append {news : List (Addr × Obj)} {vs : List Value} {rs : List Row} {v : Value} {r : Row} (h : RowsIn news vs rs) (h1 : RowIn news v r) : RowsIn news (vs ++ [v]) (rs ++ [r]) := by
  induction h with
  | nil => exact .cons h1 .nil
  | cons h _ ih => exact .cons h ih
theorem RowsIn.length {news : List (Addr × Obj)} {vs : List Value} {rs : List Row} (h : RowsIn news vs rs) : vs.length = rs.length := by
  induction h with
  | nil => rfl
  | cons h _ ih => exact congrArg (· + 1) ih
/-! the loop over enumerate -/
section
variable {prog : Program} {w : World} {A : Around} {E : Value → Shared → Prop} {s : Shared} {env : Env} {h₀ : Heap} {body : List Stmt} {Q : Flow → Shared → Prop} {elts : List Expr} {k0 : Nat} {pos : Pos}
def EnumEnd (h₀ : Heap) (L : Addr) (s₁ : Shared) (I Fd : Addr) (oe oi : Obj) (y : Str) (st : List Str) (m₀ : Str → Option Value) (tl : List (Addr × Obj)) (P : List Value → List (Addr × Obj) → Prop) (f : Flow) (s₂ : Shared) : Prop :=
  f = .next ∧ ∃ h' tk m' ys k new all, s₂ = { s₁ with heap := h', toks := tk } ∧ Fr h₀ L h' m' ∧ News h₀ L h' all ∧ (I + 1, oe) ∈ all ∧ (I, oi) ∈ all ∧ (Fd, listOf ys.toArray k) ∈ all ∧ (∀ p ∈ new, p ∈ all) ∧ (∀ p ∈ tl, p ∈ all) ∧
    (∀ p ∈ new, p.1 ≠ I ∧ p.1 ≠ I + 1 ∧ p.1 ≠ Fd) ∧ P ys (new ++ tl) ∧ m' y = some (.ref Fd) ∧ ∀ z, z ≠ y → st.contains z = false → m' z = m₀ z
theorem EnumEnd.intro {L : Addr} {s₁ : Shared} {I Fd : Addr} {oe oi : Obj} {y : Str} {st : List Str} {m₀ : Str → Option Value} {tl : List (Addr × Obj)} {P : List Value → List (Addr × Obj) → Prop} {h' : Heap} {tk : Nat} {m' : Str → Option Value} {ys : List Value} {k : Nat} {all : List (Addr × Obj)} (new : List (Addr × Obj))
    (F : Fr h₀ L h' m') (N : News h₀ L h' all) (h1 : (I + 1, oe) ∈ all) (h2 : (I, oi) ∈ all) (h3 : (Fd, listOf ys.toArray k) ∈ all) (h4 : ∀ p ∈ new, p ∈ all) (h5 : ∀ p ∈ tl, p ∈ all)
    (h6 : ∀ p ∈ new, p.1 ≠ I ∧ p.1 ≠ I + 1 ∧ p.1 ≠ Fd) (h7 : P ys (new ++ tl)) (h8 : m' y = some (.ref Fd)) (h9 : ∀ z, z ≠ y → st.contains z = false → m' z = m₀ z) : EnumEnd h₀ L s₁ I Fd oe oi y st m₀ tl P .next { s₁ with heap := h', toks := tk } :=
  ⟨rfl, h', tk, m', ys, k, new, all, rfl, F, N, h1, h2, h3, h4, h5, h6, h7, h8, h9⟩
theorem EnumEnd.two {L : Addr} {s₁ : Shared} {I Fd : Addr} {oe oi : Obj} {y : Str} {st : List Str} {m₀ : Str → Option Value} {tl : List (Addr × Obj)} {P : List Value → List (Addr × Obj) → Prop} {h' : Heap} {tk : Nat} {m' : Str → Option Value} {ys : List Value} {k : Nat} {p1 p2 : Addr × Obj} {rest : List (Addr × Obj)}
    (F : Fr h₀ L h' m') (N : News h₀ L h' (p1 :: p2 :: rest)) (h1 : (I + 1, oe) ∈ rest) (h2 : (I, oi) ∈ rest) (h3 : (Fd, listOf (ys.toArray.push (.ref p1.1)) k) ∈ rest) (h5 : ∀ p ∈ tl, p ∈ rest)
    (h6 : p1.1 ≠ I ∧ p1.1 ≠ I + 1 ∧ p1.1 ≠ Fd) (h6' : p2.1 ≠ I ∧ p2.1 ≠ I + 1 ∧ p2.1 ≠ Fd) (h7 : P (ys ++ [.ref p1.1]) (p1 :: p2 :: tl)) (h8 : m' y = some (.ref Fd)) (h9 : ∀ z, z ≠ y → st.contains z = false → m' z = m₀ z) : EnumEnd h₀ L s₁ I Fd oe oi y st m₀ tl P .next { s₁ with heap := h', toks := tk } := by
  rw [List.push_toArray] at h3
  refine EnumEnd.intro (ys := ys ++ [.ref p1.1]) (k := k) [p1, p2] F N (.tail _ (.tail _ h1)) (.tail _ (.tail _ h2)) (.tail _ (.tail _ h3)) (fun p hp => ?_) (fun p hp => .tail _ (.tail _ (h5 p hp))) (fun p hp => ?_) h7 h8 h9
  · rcases List.mem_cons.mp hp with rfl | hp
    · exact .head _
    · rw [List.mem_singleton.mp hp]; exact .tail _ (.head _)
  · rcases List.mem_cons.mp hp with rfl | hp
    · exact h6
    · rw [List.mem_singleton.mp hp]; exact h6'
theorem fr_base1 {h : Heap} {L : Addr} {m₁ m₀ : Str → Option Value} {y : Str} {u : Value} {st : List Str} (F : Fr h₀ L h m₁) (h1 : m₁ y = some u) (h2 : ∀ z, z ≠ y → st.contains z = false → m₁ z = m₀ z) :
    Fr h₀ L h (fun z => if z = y then some u else if st.contains z then m₁ z else m₀ z) := fr_done1 F h1 h2
theorem enum_rest {Fd I : Addr} {vs : List Value} {base : List (Addr × Obj)} {y : Str} {st : List Str} {m₀ : Str → Option Value} {keep : List (Addr × Obj)} (P : Nat → List Value → List (Addr × Obj) → Prop)
    (hkeep : SubL keep base) (hF : Fd < I)
    (turn : ∀ i v ys k tl (m₁ : Str → Option Value) T t h tk oe oi, vs[i]? = some v → P i ys tl → (∀ p ∈ base, p ∈ tl) → (∀ p ∈ tl, p.1 ≠ Fd) → IsTup h T #[.int (i : Int) t, v] →
      Fr h₀ env.locals h (fun z => if z = y then some (.ref Fd) else if st.contains z then m₁ z else m₀ z) → News h₀ env.locals h ((I + 1, oe) :: (I, oi) :: (Fd, listOf ys.toArray k) :: tl) →
      wpAny (model prog w) A (assign (.Tuple elts k0 pos) env (.ref T)) (fun _ s₂ => wpAny (model prog w) A (execs body env) (EnumEnd h₀ env.locals { s with heap := h, toks := tk } I Fd oe oi y st m₀ tl (P (i + 1))) E s₂) E { s with heap := h, toks := tk })
    (done : ∀ ys k tl (m₁ : Str → Option Value) h tk, P vs.length ys tl → (∀ p ∈ base, p ∈ tl) → Fr h₀ env.locals h (fun z => if z = y then some (.ref Fd) else if st.contains z then m₁ z else m₀ z) → News h₀ env.locals h ((Fd, listOf ys.toArray k) :: tl) → Q .next { s with heap := h, toks := tk }) :
    ∀ n i m₁ ys k tl, i + n = vs.length → P i ys tl → (∀ p ∈ base, p ∈ tl) → (∀ p ∈ tl, p.1 ≠ Fd ∧ p.1 ≠ I ∧ p.1 ≠ I + 1) → m₁ y = some (.ref Fd) → (∀ z, z ≠ y → st.contains z = false → m₁ z = m₀ z) →
      ItemsRest prog w A E h₀ env (.Tuple elts k0 pos) body Q s [(I + 1, "enumerate"), (I, "list_iterator")] keep (enumItems i (vs.drop i)) m₁ ((Fd, listOf ys.toArray k) :: tl)
  | 0, i, m₁, ys, k, tl, e, hP, hb, ho, h1, h2 => by
    have e' : i = vs.length := by omega
    rw [List.drop_eq_nil_of_le (Nat.le_of_eq e'.symm)]
    refine ItemsRest.zero fun h tk F N => ?_
    exact done ys k tl m₁ h tk (e' ▸ hP) hb (fr_base1 F h1 h2) N
  | n + 1, i, m₁, ys, k, tl, e, hP, hb, ho, h1, h2 => by
    have hi : i < vs.length := by omega
    rw [List.drop_eq_getElem_cons hi]
    refine ItemsRest.pair fun T t h tk hT F => ?_
    refine AllObj.cons fun oe hce => AllObj.cons fun oi hci => AllObj.nil fun N => ?_
    refine wpAny_mono (turn i vs[i] ys k tl m₁ T t h tk oe oi (List.getElem?_eq_getElem hi) hP hb (fun p hp => (ho p hp).1) hT (fr_base1 F h1 h2) N) (fun _ s₂ hs => wpAny_mono hs (fun f s₃ hE => ?_) fun _ _ e => e) fun _ _ e => e
    obtain ⟨rfl, h', tk', m', ys', k', new, all, rfl, F', N', a1, a2, a3, a4, a5, a6, a7, a8, a9⟩ := hE
    refine ⟨h', tk', m', (Fd, listOf ys'.toArray k') :: (new ++ tl), rfl, F', fun p hp => N' p ?_, fun p hp q hq => ?_, ?_, ?_⟩
    · rcases List.mem_cons.mp hp with rfl | hp
      · exact a1
      · rcases List.mem_cons.mp hp with rfl | hp
        · exact a2
        · rcases List.mem_cons.mp hp with rfl | hp
          · exact a3
          · rcases List.mem_append.mp hp with hp | hp
            · exact a4 p hp
            · exact a5 p hp
    · have hp' : p.1 ≠ I ∧ p.1 ≠ I + 1 := by
        rcases List.mem_cons.mp hp with rfl | hp
        · exact ⟨Nat.ne_of_lt hF, Nat.ne_of_lt (Nat.lt_succ_of_lt hF)⟩
        · rcases List.mem_append.mp hp with hp | hp
          · exact ⟨(a6 p hp).1, (a6 p hp).2.1⟩
          · exact (ho p hp).2
      rcases List.mem_cons.mp hq with rfl | hq
      · exact hp'.2
      · rw [List.mem_singleton.mp hq]; exact hp'.1
    · refine subL_mem keep fun p hp => ?_
      exact List.mem_cons_of_mem _ (List.mem_append_right _ (hb p (hkeep.mem p hp)))
    · refine enum_rest P hkeep hF turn done n (i + 1) m' ys' k' (new ++ tl) (by omega) a7 (fun p hp => List.mem_append_right _ (hb p hp)) (fun p hp => ?_) a8 a9
      rcases List.mem_append.mp hp with hp | hp
      · exact ⟨(a6 p hp).2.2, (a6 p hp).1, (a6 p hp).2.1⟩
      · exact ho p hp
where subL_mem : ∀ (l : List (Addr × Obj)) {all : List (Addr × Obj)}, (∀ p ∈ l, p ∈ all) → SubL l all
  | [], _, _ => trivial
  | p :: r, _, h => ⟨h p (List.mem_cons_self ..), subL_mem r fun q hq => h q (List.mem_cons_of_mem _ hq)⟩
theorem enum_loop {l Fd : Addr} {vs : List Value} {n k : Nat} {base all : List (Addr × Obj)} {m₀ : Str → Option Value} (y : Str) (st : List Str) (P : Nat → List Value → List (Addr × Obj) → Prop)
    (hh : A.handled = none) (F : Fr h₀ env.locals s.heap m₀) (N : News h₀ env.locals s.heap all) (hall : ∀ p ∈ (Fd, listOf #[] k) :: base, p ∈ all) (hm : (l, listOf vs.toArray n) ∈ base) (hoff : ∀ p ∈ base, p.1 ≠ Fd) (hy : m₀ y = some (.ref Fd)) (h0 : P 0 [] base)
    (turn : ∀ i v ys k tl (m₁ : Str → Option Value) T t I h tk oe oi, vs[i]? = some v → P i ys tl → (∀ p ∈ base, p ∈ tl) → (∀ p ∈ tl, p.1 ≠ Fd) → @LT.lt Nat _ Fd I → IsTup h T #[.int (i : Int) t, v] →
      Fr h₀ env.locals h (fun z => if z = y then some (.ref Fd) else if st.contains z then m₁ z else m₀ z) → News h₀ env.locals h ((I + 1, oe) :: (I, oi) :: (Fd, listOf ys.toArray k) :: tl) →
      wpAny (model prog w) A (assign (.Tuple elts k0 pos) env (.ref T)) (fun _ s₂ => wpAny (model prog w) A (execs body env) (EnumEnd h₀ env.locals { s with heap := h, toks := tk } I Fd oe oi y st m₀ tl (P (i + 1))) E s₂) E { s with heap := h, toks := tk })
    (done : ∀ ys k tl (m₁ : Str → Option Value) h tk, P vs.length ys tl → (∀ p ∈ base, p ∈ tl) → Fr h₀ env.locals h (fun z => if z = y then some (.ref Fd) else if st.contains z then m₁ z else m₀ z) → News h₀ env.locals h ((Fd, listOf ys.toArray k) :: tl) → Q .next { s with heap := h, toks := tk }) :
    wpAny (model prog w) A (call (.type "enumerate") [.ref l]) (fun xv s₁ => wpAny (model prog w) A (pyIter xv) (fun it s₂ => TurnsAt prog w A h₀ env (.Tuple elts k0 pos) body Q E it s₂) E s₁) E s := by
  have N' : News h₀ env.locals s.heap ((Fd, listOf #[] k) :: base) := fun p hp => N p (hall p hp)
  refine ktu_enum (lo := listOf vs.toArray n) (n := n) hh F N' (List.mem_cons_of_mem _ hm) rfl rfl rfl fun I hI => ?_
  have hlt : ∀ p ∈ base, p.1 < I := fun p hp => hI p (List.mem_cons_of_mem _ hp)
  have := enum_rest (Q := Q) (keep := [(l, listOf vs.toArray n)]) P ⟨hm, trivial⟩ (hI _ (List.mem_cons_self ..)) (fun i v ys k tl m₁ T t h tk oe oi a b c d e f g => turn i v ys k tl m₁ T t I h tk oe oi a b c d (hI _ (List.mem_cons_self ..)) e f g) done vs.length 0 m₀ [] k base (by omega) h0 (fun _ h => h)
    (fun p hp => ⟨hoff p hp, Nat.ne_of_lt (hlt p hp), Nat.ne_of_lt (Nat.lt_succ_of_lt (hlt p hp))⟩) hy fun _ _ _ => rfl
  rwa [List.drop_zero] at this
end
/-- a comprehension / a loop over enumerate that is left to be done by hand -/
def CompHere (M : Model) (A : Around) (e : Expr) (env : Env) (Q : Value → Shared → Prop) (E : Value → Shared → Prop) (s : Shared) : Prop := wpAny M A (eval e env) Q E s
theorem comp_here {M : Model} {A : Around} {e : Expr} {env : Env} {Q : Value → Shared → Prop} {E : Value → Shared → Prop} {s : Shared} (h : CompHere M A e env Q E s) : wpAny M A (eval e env) Q E s := h
def EnumHere (M : Model) (A : Around) (v : Value) (xs : List Value) (Q : Value → Shared → Prop) (E : Value → Shared → Prop) (s : Shared) : Prop := wpAny M A (call v xs) Q E s
theorem enum_here {M : Model} {A : Around} {v : Value} {xs : List Value} {Q : Value → Shared → Prop} {E : Value → Shared → Prop} {s : Shared} (h : EnumHere M A v xs Q E s) : wpAny M A (call v xs) Q E s := h
end Mine
namespace Mine
theorem rules46 : True := by
  w_top off
  k_with_none
  k_with "execs cons" => (k_here; (try k_gentoks); (with_reducible refine execs_hide ?_); intro «Q✝» «k✝»; try dsimp only)
  trivial
theorem rowB_some {b pre post : Array UInt8} (h1 : preB b = pre) (h2 : postB b = post) (h : ((barB pre).toList != ([] : List UInt8)) = true) : rowB b = some (fieldsB pre, some (barB post)) := by
  unfold rowB; rw [h1, h2, if_pos h]
theorem rowB_none {b pre : Array UInt8} (h1 : preB b = pre) (h : ((barB pre).toList != ([] : List UInt8)) = false) : rowB b = none := by
  unfold rowB; rw [h1, if_neg (by rw [h]; decide)]
theorem pre_lt {b : Array UInt8} (h : BB.findI b #[35] < 0) : preB b = b := if_pos h
theorem post_lt {b : Array UInt8} (h : BB.findI b #[35] < 0) : postB b = #[] := if_pos h
theorem pre_ge {b : Array UInt8} (h : ¬ BB.findI b #[35] < 0) : preB b = KBy.picked b none (some (BB.findI b #[35])) := if_neg h
theorem post_ge {b : Array UInt8} (h : ¬ BB.findI b #[35] < 0) : postB b = KBy.picked b (some (BB.findI b #[35] + 1)) none := if_neg h
theorem rowsAt_le (f : Array UInt8 → Option (List (Array UInt8) × Option (Array UInt8))) : ∀ (a : List (Array UInt8)) (i : Nat), (rowsAt f i a).length ≤ a.length
  | [], _ => Nat.le_refl _
  | b :: a, i => by
    have := rowsAt_le f a (i + 1)
    show (match f b with | some (fs, rm) => ((i : Int) + 1, fs, rm) :: rowsAt f (i + 1) a | none => rowsAt f (i + 1) a).length ≤ _
    cases f b with
    | none => simp only [List.length_cons]; omega
    | some p => simp only [List.length_cons]; omega
theorem rows_size {f : Array UInt8 → Option (List (Array UInt8) × Option (Array UInt8))} {bs : List (Array UInt8)} {i : Nat} {ys : List Value} {tl : List (Addr × Obj)} (h : RowsIn tl ys (rowsAt f 0 (bs.take i))) (hn : bs.length ≤ 1000) : ys.toArray.size ≤ sizeLine := by
  have h1 := h.length
  have h2 := rowsAt_le f (bs.take i) 0
  have h3 : (bs.take i).length ≤ bs.length := by rw [List.length_take]; omega
  rw [sizeLine_eq, List.size_toArray]
  omega
open BB in
theorem BAre_append1 {vs : List Value} {bs : List (Array UInt8)} (h : BAre vs bs) (b : Array UInt8) (t : Tok) : BAre (vs ++ [.bytes b t]) (bs ++ [b]) := by
  induction h with
  | nil => exact .cons b t .nil
  | cons b' t' r ih => exact .cons b' t' ih
section
variable {prog : Program} {w : World} {A : Around} {E : Value → Shared → Prop} {s : Shared} {value slice : PySem.Expr} {b c : Array UInt8} {t u : Tok} {h₀ : Heap} {L : Addr} {m : PySem.Str → Option Value} {news : List (Addr × Obj)} {l r : Value} {lo hi : Option Int} {Q : Value → Shared → Prop}
theorem cut_N (hF : Fr h₀ L s.heap m) (hN : News h₀ L s.heap news) (hl : IsPart l lo) (hu : IsPart r hi) (hz : b.size ≤ 16777216)
    (h : ∀ c h' t' k, c = KBy.picked b lo hi → c.size ≤ b.size → Fr h₀ L h' m → News h₀ L h' news → Q (.bytes c t') { s with heap := h', toks := k })
    (hs : subscripted slice false (.bytes b t) (.ref s.heap.objs.size) = operate [.ref s.heap.objs.size, .bytes b t] (getItem (.bytes b t) (.ref s.heap.objs.size)) := by with_unfolding_all rfl)
    (ht : ∀ r, letTemporaryGo value (.bytes b t) r = pure () := by intro _; with_unfolding_all rfl) :
    wpAny (model prog w) A (subscriptTail value slice (.bytes b t) (.ref s.heap.objs.size)) Q E { s with heap := s.heap.push { cls := .type "slice", data := .fields #[l, r, .none] } } :=
  KBc.slice_K hF hN rfl hl hu (by rw [KBw.ints_length]; exact hz) (fun h' t' k F' N' _ => h _ h' t' k rfl (KBc.size_picked_le b lo hi) F' N') hs ht
theorem strip_N (hz : b.size ≤ 16777216) (h : ∀ d t' k, d = BB.stripBy c b → d.size ≤ b.size → Q (.bytes d t') { s with toks := k }) : wpAny (model prog w) A (call (.builtin "bytes.strip") [.bytes b t, .bytes c u]) Q E s :=
  BB.strip hz fun t' k => h _ t' k rfl (BB.strip_size c b)
theorem strip_bar (hz : b.size ≤ 16777216) (h : ∀ d t' k, d = barB b → d.size ≤ b.size → Q (.bytes d t') { s with toks := k }) : wpAny (model prog w) A (call (.builtin "bytes.strip") [.bytes b t, .bytes #[32, 9, 13] u]) Q E s :=
  BB.strip hz fun t' k => h _ t' k rfl (BB.strip_size _ b)
end
def ExecHere (M : Model) (A : Around) (st : Stmt) (env : Env) (Q : Flow → Shared → Prop) (E : Value → Shared → Prop) (s : Shared) : Prop := wpAny M A (exec st env) Q E s
theorem exec_here {M : Model} {A : Around} {st : Stmt} {env : Env} {Q : Flow → Shared → Prop} {E : Value → Shared → Prop} {s : Shared} (h : ExecHere M A st env Q E s) : wpAny M A (exec st env) Q E s := h
theorem split_line {vs : List Value} {b c : Array UInt8} (h : BB.BAre vs (BB.splitBy b c)) (hz : b.size ≤ 10000) : vs.toArray.size ≤ sizeLine := by
  have h1 := h.length
  have h2 := split_le b c
  rw [sizeLine_eq, List.size_toArray]; omega
abbrev bsOf {vs : List Value} {bs : List (Array UInt8)} (_h : BB.BAre vs bs) : List (Array UInt8) := bs
section
variable {w : World} {loose : List Str} {mean : ExcName → Option Value} {mg mb : Str → Option Value} {dp un : Nat} {gd : Option (List Code)} {cn : Str} {cs : Scope} {a : Addr} {ccd : Value} {cl : List (Str × Addr)} {outer : List Env} {A₀ : Around} {base h₀ : Heap} {L : Addr} {m : Str → Option Value} {s : Shared} {Q E : Value → Shared → Prop} {news : List (Addr × Obj)}
theorem bare_specN {b : Array UInt8} {tb : Tok} (B : Below A₀ base outer h₀) (F : Fr h₀ L s.heap m) (X : (hd.heap_39 w.params).In h₀) (N : News h₀ L s.heap news) (T : Top hd.view_39 loose mean mg mb h₀) (hk : cs.kind = .function)
    (hdp : dp + 40 < recursionLimit) (hu : un + 400 < cLine) (hz : b.size ≤ 10000)
    (ret : ∀ d t h' tk, d = barB b → d.size ≤ b.size → Fr h₀ L h' m → News h₀ L h' news → Q (.bytes d t) { s with heap := h', toks := tk }) :
    wpAny (model PySem.Challenge.rw_nt0003_01.prog w) (ktrTop dp un gd cn cs L a ccd cl outer) (call (.ref 140) [.bytes b tb]) Q E s :=
  bare_spec B F X N T hk hdp hu hz fun t h' tk F' N' => ret _ t h' tk rfl (BB.strip_size _ _) F' N'
theorem rules44 : True := by
  k_with "getMethod bytes" => (k_here; first | (with_reducible refine BB.find_method ?_) | (with_reducible refine BB.strip_method ?_) | (with_reducible refine BB.split_method ?_) | (with_reducible refine BB.join_method ?_) | (with_reducible refine BB.starts_method ?_))
  k_with "call builtin:bytes.split" => (k_here; k_dflt (refine' split_K ?qqbsF ?qqbsN ?qqbsz ?qqbsc ?_; (case qqbsF => k_asm); (case qqbsN => k_asm); (case qqbsz => omega); (case qqbsc => rfl)); intro «D'✝» «h'✝» «vs'✝» «tk'✝» «hB'✝» «l1✝» «F'✝» «N'✝»; (try k_lt «l1✝»))
  k_with "call builtin:len" => (k_here; (with_reducible show wpAny _ _ (call (Value.builtin "len") [Value.ref _]) _ _ _); (rename News _ _ _ _ => «nX✝»); k_dflt (refine' lenB (News.isList (n := 0) «nX✝» ?qqlm) ?qqlB ?qqlz ?_; (case qqlm => k_mem); (case qqlB => assumption); (case qqlz => first | assumption | omega)); intro _ _)
  k_with "call builtin:bytes.find" => (k_here; (refine BB.find ?_); intro _ _)
  k_with "call builtin:bytes.startswith" => (k_here; (refine BB.starts ?_); intro _)
  k_with "eval ListComp" => (k_here; k_dflt (refine' LCg.ListComp_U (F₀ := ?qqa) ?qqb ?qqc ?qqd ?qqe ?qqf ?_; (case qqa => k_asm); (case qqb => rfl); (case qqc => decide); (case qqd => rfl); (case qqe => decide); (case qqf => rfl)))
  k_with "FinE" => ((unfold LCg.FinE); intro «D'✝» «h'✝» «tk'✝» «F'✝» «N'✝» «o1'✝»; (try simp only [LCg.Off1, and_true] at «o1'✝»); (try rw [lst_eq] at «N'✝»); (try dsimp only))
  k_with "exec Assign cons ListComp" => (k_here; k_dflt (refine' LCg.Assign_ListComp_U (F₀ := ?qqla) ?qqlb ?qqlc ?qqld ?qqle ?qqlf ?qqlg ?qqlh ?qqli ?qqlj ?_; (case qqla => k_asm); (case qqlb => rfl); (case qqlc => with_unfolding_all rfl); (case qqld => rfl); (case qqle => decide); (case qqlf => rfl); (case qqlg => decide); (case qqlh => rfl); (case qqli => rfl); (case qqlj => rfl)))
  k_with "FinA" => ((unfold LCg.FinA); intro «D'✝» «h'✝» «tk'✝» «F'✝» «N'✝» «o1'✝»; (try simp only [LCg.Off1, and_true] at «o1'✝»); (try rw [lst_eq] at «N'✝»); (try dsimp only))
  k_with "exec For Tuple Call cons nil" => (k_here; (rename Fr _ _ _ _ => «lF'✝»); (with_unfolding_all refine' For_turns «lF'✝» ?_; k_whole))
  k_with "call type:enumerate" => (k_here; refine enum_here ?_)
  k_with "call builtin:bytes.strip" => (k_here; (refine strip_bar (by first | omega | (simp only [List.size_toArray, List.length_nil]; omega)) ?_); intro «c'✝» «t'✝» «k'✝» «hc'✝» «hz'✝»)
  k_with "call ref" => (k_here; (with_reducible show wpAny _ _ (call (Value.ref 140) [Value.bytes _ _]) _ _ _); k_dflt (refine' bare_specN ?qqB ?qqF ?qqX ?qqN ?qqT ?qqk ?qqd ?qqu ?qqz ?_; (case qqB => k_asm); (case qqF => k_asm); (case qqX => k_asm); (case qqN => k_asm); (case qqT => k_asm); (case qqk => first | exact rfl | assumption); (case qqd => ktr_room); (case qqu => ktr_units); (case qqz => first | omega | (simp only [List.size_toArray, List.length_nil]; omega))); intro «c'✝» «t'✝» «h'✝» «tk'✝» «hc'✝» «hz'✝» «F'✝» «N'✝»)
  k_with "subscriptTail" => (k_here; (with_reducible show wpAny _ _ (subscriptTail _ (Expr.Slice _ _ _ _) (Value.bytes _ _) (Value.ref _)) _ _ _); (with_reducible rename Fr _ _ _ _ => «F'✝»); (with_reducible rename News _ _ _ _ => «N'✝»); (refine cut_N (s := ⟨_, _, _, _, _⟩) «F'✝» «N'✝» (by constructor) (by constructor) (by omega) ?_); clear «F'✝» «N'✝»; intro «c'✝» «h'✝» «t'✝» «k'✝» «hc'✝» «hz'✝» «F'✝» «N'✝»; (try dsimp only))
  k_with "call builtin:list.append" => (k_here; (with_reducible show wpAny _ _ (call (Value.builtin _) [Value.ref _, _]) _ _ _); k_dflt (refine' append_K ?qqk1 ?qqk2 ?qqk3 ?_ ?qqz; (case qqk1 => k_asm); (case qqk2 => k_asm); (case qqk3 => k_upd); (case qqz => assumption); k_whole); intro «h'✝» «F'✝» «N'✝»; (try k_sweep))
  k_with "eval ListComp" => (k_here; refine comp_here ?_)
  trivial
theorem rules45 : True := by
  k_with "exec Assign cons ListComp" => (k_here; refine exec_here ?_)
  trivial
set_option maxHeartbeats 8000000 in
theorem lrows_spec {l : Addr} {vs : List Value} {bs : List (Array UInt8)} {n : Nat} (B : Below A₀ base outer h₀) (F : Fr h₀ L s.heap m) (X : (hd.heap_39 w.params).In h₀) (N : News h₀ L s.heap news) (T : Top hd.view_39 loose mean mg mb h₀) (hk : cs.kind = .function)
    (hdp : dp + 60 < recursionLimit) (hu : un + 600 < cLine) (hl : (l, listOf vs.toArray n) ∈ news) (hB : BB.BAre vs bs) (hz : ∀ p ∈ bs, p.size ≤ 2000) (hn : bs.length ≤ 1000)
    (ret : ∀ D ys k tl h' tk, RowsIn tl ys (rowsAt rowB 0 bs) → (∀ p ∈ news, p ∈ tl) → Fr h₀ L h' m → News h₀ L h' ((D, listOf ys.toArray k) :: tl) → Q (.ref D) { s with heap := h', toks := tk }) :
    wpAny (model PySem.Challenge.rw_nt0003_01.prog w) (ktrTop dp un gd cn cs L a ccd cl outer) (call (.ref 145) [.ref l]) Q E s := by
  revert X; k_fill; intro X
  refine wpAny_call ?_
  k_dflt cell_enter
  k_steps
  have hBl := hB.length
  rename Fr _ _ _ _ => lF
  rename News _ _ _ _ => lN
  rename ∀ p ∈ news, _ => lt1
  refine enum_loop "found" ["at", "line", "spot", "content", "remark"] (fun i ys tl => RowsIn tl ys (rowsAt rowB 0 (bs.take i))) rfl lF lN (fun _ h => h) hl (fun p hp => Nat.ne_of_lt (lt1 p hp)) rfl .nil ?turn ?done
  case turn =>
    rintro i v ys k tl m₁ T t I h tk oe oi hv hP hbase hoff hFI hT F1 N1
    obtain ⟨b, t, rfl, hzi, hbi, htk⟩ := bare_at hB (by simpa using hv) hz
    clear lF lN
    have hil : i < bs.length := (List.getElem?_eq_some_iff.mp hbi).1
    have hys := rows_size hP hn
    have hp1 := KBc.size_picked_le b none (some (BB.findI b #[35]))
    have hp2 := KBc.size_picked_le b (some (BB.findI b #[35] + 1)) none
    k_steps
    · rename _ = barB _ => hcon
      subst hcon
      (unfold CompHere; k_dflt (refine' LCg.ListComp_U (F₀ := ?qqa) ?qqb ?qqc ?qqd ?qqe ?qqf ?_; (case qqa => k_asm); (case qqb => rfl); (case qqc => decide); (case qqd => rfl); (case qqe => decide); (case qqf => rfl)))
      k_steps
      rename BB.BAre _ (BB.splitBy _ _) => hB2
      k_dflt (refine' LCg.CompSrc.ledger ?ch ?cF ?cN ?cm ?cz ?_; (case cF => k_asm); (case cN => k_asm); (case cm => k_mem); (case ch => rfl); (case cz => exact split_line hB2 (by omega)))
      intro g
      refine compRest_ind (fun j zs nw => nw = _ ∧ BB.BAre zs (((bsOf hB2).take j).map barB)) ?_ ?_ _ 0 [] _ (Nat.zero_add _) ⟨rfl, .nil⟩
      · rintro j zs news' v I2 oI C oC D1 m₂ h2 tk2 E' hj ⟨e, hzs⟩ hv2 hC hx F1 N1 off ne
        obtain ⟨bj, tj, rfl, hzj, hbj, htj⟩ := bare_at hB2 hv2 (split_sz _ _)
        k_steps
        rename Fr _ _ _ _ => F2
        rename News _ _ _ _ => N2
        rename _ = barB _ => hbar
        exact LCg.CompEnd.intro F2 N2 news' (fun _ h => h) off (.inr ⟨_, by rw [e]; exact .head _, rfl, _, rfl⟩) ⟨e, by rw [htj, List.map_append]; rw [hbar]; exact BAre_append1 hzs _ _⟩
      · rintro zs news' ⟨rfl, hzs⟩
        k_steps
        rename Fr _ _ _ _ => F2
        rename News _ _ _ _ => N2
        rename _ = barB _ => hrem
        subst hrem
        refine EnumEnd.two (ys := ys) (k := k + 1) F2 N2 ?_ ?_ ?_ ?_ ?_ ?_ ?_ rfl ?_
        · k_mem
        · k_mem
        · k_mem
        · exact fun p hp => by repeat (first | exact hp | refine List.mem_cons_of_mem _ ?_)
        · refine ⟨?_, ?_, ?_⟩ <;> k_ne
        · refine ⟨?_, ?_, ?_⟩ <;> k_ne
        · show RowsIn _ _ (rowsAt rowB 0 (bs.take (i + 1)))
          rw [rowsAt_some htk (by omega) (rowB_some (pre_lt (by assumption)) (post_lt (by assumption)) (by assumption))]
          rw [List.take_of_length_le (by rw [← hB2.length]; simp)] at hzs
          exact (hP.mono fun p hp => .tail _ (.tail _ hp)).append (.three (.head _) (.tail _ (.head _)) hzs)
        · intro z hz1 hz2
          have g0 : z ≠ ("remark" : Str) := fun e => by rw [e] at hz2; revert hz2; decide
          have g1 : z ≠ ("content" : Str) := fun e => by rw [e] at hz2; revert hz2; decide
          have g2 : z ≠ ("spot" : Str) := fun e => by rw [e] at hz2; revert hz2; decide
          have g3 : z ≠ ("line" : Str) := fun e => by rw [e] at hz2; revert hz2; decide
          have g4 : z ≠ ("at" : Str) := fun e => by rw [e] at hz2; revert hz2; decide
          show (if z = _ then _ else _) = _
          rw [if_neg g0, if_neg g1, if_neg g2, if_neg g3, if_neg g4, if_neg hz1, hz2]
          rfl
    · rename Fr _ _ _ _ => F2
      rename News _ _ _ _ => N2
      rename _ = barB _ => hcon
      subst hcon
      refine EnumEnd.intro (ys := ys) (k := k) [] F2 N2 ?_ ?_ ?_ ?_ ?_ ?_ ?_ rfl ?_
      · k_mem
      · k_mem
      · k_mem
      · exact fun _ h => nomatch h
      · exact fun p hp => by repeat (first | exact hp | refine List.mem_cons_of_mem _ ?_)
      · exact fun _ h => nomatch h
      · show RowsIn tl ys (rowsAt rowB 0 (bs.take (i + 1)))
        rw [rowsAt_none htk (by omega) (rowB_none (pre_lt (by assumption)) (by assumption))]
        exact hP
      · intro z hz1 hz2
        have g0 : z ≠ ("remark" : Str) := fun e => by rw [e] at hz2; revert hz2; decide
        have g1 : z ≠ ("content" : Str) := fun e => by rw [e] at hz2; revert hz2; decide
        have g2 : z ≠ ("spot" : Str) := fun e => by rw [e] at hz2; revert hz2; decide
        have g3 : z ≠ ("line" : Str) := fun e => by rw [e] at hz2; revert hz2; decide
        have g4 : z ≠ ("at" : Str) := fun e => by rw [e] at hz2; revert hz2; decide
        show (if z = _ then _ else _) = _
        rw [if_neg g0, if_neg g1, if_neg g2, if_neg g3, if_neg g4, if_neg hz1, hz2]
        rfl
    · rename _ = barB _ => hcon
      subst hcon
      (unfold CompHere; k_dflt (refine' LCg.ListComp_U (F₀ := ?qqa) ?qqb ?qqc ?qqd ?qqe ?qqf ?_; (case qqa => k_asm); (case qqb => rfl); (case qqc => decide); (case qqd => rfl); (case qqe => decide); (case qqf => rfl)))
      k_steps
      rename BB.BAre _ (BB.splitBy _ _) => hB2
      k_dflt (refine' LCg.CompSrc.ledger ?ch ?cF ?cN ?cm ?cz ?_; (case cF => k_asm); (case cN => k_asm); (case cm => k_mem); (case ch => rfl); (case cz => exact split_line hB2 (by omega)))
      intro g
      refine compRest_ind (fun j zs nw => nw = _ ∧ BB.BAre zs (((bsOf hB2).take j).map barB)) ?_ ?_ _ 0 [] _ (Nat.zero_add _) ⟨rfl, .nil⟩
      · rintro j zs news' v I2 oI C oC D1 m₂ h2 tk2 E' hj ⟨e, hzs⟩ hv2 hC hx F1 N1 off ne
        obtain ⟨bj, tj, rfl, hzj, hbj, htj⟩ := bare_at hB2 hv2 (split_sz _ _)
        k_steps
        rename Fr _ _ _ _ => F2
        rename News _ _ _ _ => N2
        rename _ = barB _ => hbar
        exact LCg.CompEnd.intro F2 N2 news' (fun _ h => h) off (.inr ⟨_, by rw [e]; exact .head _, rfl, _, rfl⟩) ⟨e, by rw [htj, List.map_append]; rw [hbar]; exact BAre_append1 hzs _ _⟩
      · rintro zs news' ⟨rfl, hzs⟩
        k_steps
        rename Fr _ _ _ _ => F2
        rename News _ _ _ _ => N2
        rename _ = barB _ => hrem
        subst hrem
        refine EnumEnd.two (ys := ys) (k := k + 1) F2 N2 ?_ ?_ ?_ ?_ ?_ ?_ ?_ rfl ?_
        · k_mem
        · k_mem
        · k_mem
        · exact fun p hp => by repeat (first | exact hp | refine List.mem_cons_of_mem _ ?_)
        · refine ⟨?_, ?_, ?_⟩ <;> k_ne
        · refine ⟨?_, ?_, ?_⟩ <;> k_ne
        · show RowsIn _ _ (rowsAt rowB 0 (bs.take (i + 1)))
          rw [rowsAt_some htk (by omega) (rowB_some ((pre_ge (by assumption)).trans (by assumption : _ = KBy.picked b none (some (BB.findI b #[35]))).symm) ((post_ge (by assumption)).trans (by assumption : _ = KBy.picked b (some (BB.findI b #[35] + 1)) none).symm) (by assumption))]
          rw [List.take_of_length_le (by rw [← hB2.length]; simp)] at hzs
          exact (hP.mono fun p hp => .tail _ (.tail _ hp)).append (.three (.head _) (.tail _ (.head _)) hzs)
        · intro z hz1 hz2
          have g0 : z ≠ ("remark" : Str) := fun e => by rw [e] at hz2; revert hz2; decide
          have g1 : z ≠ ("content" : Str) := fun e => by rw [e] at hz2; revert hz2; decide
          have g2 : z ≠ ("spot" : Str) := fun e => by rw [e] at hz2; revert hz2; decide
          have g3 : z ≠ ("line" : Str) := fun e => by rw [e] at hz2; revert hz2; decide
          have g4 : z ≠ ("at" : Str) := fun e => by rw [e] at hz2; revert hz2; decide
          show (if z = _ then _ else _) = _
          rw [if_neg g0, if_neg g1, if_neg g2, if_neg g3, if_neg g4, if_neg hz1, hz2]
          rfl
    · rename Fr _ _ _ _ => F2
      rename News _ _ _ _ => N2
      rename _ = barB _ => hcon
      subst hcon
      refine EnumEnd.intro (ys := ys) (k := k) [] F2 N2 ?_ ?_ ?_ ?_ ?_ ?_ ?_ rfl ?_
      · k_mem
      · k_mem
      · k_mem
      · exact fun _ h => nomatch h
      · exact fun p hp => by repeat (first | exact hp | refine List.mem_cons_of_mem _ ?_)
      · exact fun _ h => nomatch h
      · show RowsIn tl ys (rowsAt rowB 0 (bs.take (i + 1)))
        rw [rowsAt_none htk (by omega) (rowB_none ((pre_ge (by assumption)).trans (by assumption : _ = KBy.picked b none (some (BB.findI b #[35]))).symm) (by assumption))]
        exact hP
      · intro z hz1 hz2
        have g0 : z ≠ ("remark" : Str) := fun e => by rw [e] at hz2; revert hz2; decide
        have g1 : z ≠ ("content" : Str) := fun e => by rw [e] at hz2; revert hz2; decide
        have g2 : z ≠ ("spot" : Str) := fun e => by rw [e] at hz2; revert hz2; decide
        have g3 : z ≠ ("line" : Str) := fun e => by rw [e] at hz2; revert hz2; decide
        have g4 : z ≠ ("at" : Str) := fun e => by rw [e] at hz2; revert hz2; decide
        show (if z = _ then _ else _) = _
        rw [if_neg g0, if_neg g1, if_neg g2, if_neg g3, if_neg g4, if_neg hz1, hz2]
        rfl
  case done =>
    rintro ys k tl m₁ h tk hP hbase F1 N1
    k_steps
    rename_i kF kN _ _
    rw [hBl, List.take_length] at hP
    exact ret _ _ _ _ _ _ hP hbase kF kN
end
end Mine
namespace Mine
theorem rules50 : True := by
  w_top off
  k_with_none
  k_with "execs cons" => (k_here; (try k_gentoks); (with_reducible refine execs_hide ?_); intro «Q✝» «k✝»; try dsimp only)
  trivial
abbrev valsOf {vs : List Value} {bs : List (Array UInt8)} (_h : BB.BAre vs bs) : List Value := vs
def markB : Array UInt8 := #[239, 187, 191]
def unmark (b : Array UInt8) : Array UInt8 := if BB.startsB b markB = true then KBy.picked b (some 3) none else b
theorem unmark_size (b : Array UInt8) : (unmark b).size ≤ b.size := by
  unfold unmark; split
  · exact KBc.size_picked_le ..
  · exact Nat.le_refl _
section
variable {w : World} {loose : List Str} {mean : ExcName → Option Value} {mg mb : Str → Option Value} {dp un : Nat} {gd : Option (List Code)} {cn : Str} {cs : Scope} {a : Addr} {ccd : Value} {cl : List (Str × Addr)} {outer : List Env} {A₀ : Around} {base h₀ : Heap} {L : Addr} {m : Str → Option Value} {s : Shared} {Q E : Value → Shared → Prop} {news : List (Addr × Obj)}
theorem rules47 : True := by
  k_with "getMethod bytes" => (k_here; first | (with_reducible refine BB.find_method ?_) | (with_reducible refine BB.strip_method ?_) | (with_reducible refine BB.split_method ?_) | (with_reducible refine BB.join_method ?_) | (with_reducible refine BB.starts_method ?_))
  k_with "call builtin:bytes.split" => (k_here; k_dflt (refine' split_K ?qqbsF ?qqbsN ?qqbsz ?qqbsc ?_; (case qqbsF => k_asm); (case qqbsN => k_asm); (case qqbsz => omega); (case qqbsc => rfl)); intro «D'✝» «h'✝» «vs'✝» «tk'✝» «hB'✝» «l1✝» «F'✝» «N'✝»; (try k_lt «l1✝»))
  k_with "call builtin:len" => (k_here; (with_reducible show wpAny _ _ (call (Value.builtin "len") [Value.ref _]) _ _ _); (rename News _ _ _ _ => «nX✝»); k_dflt (refine' lenB (News.isList (n := 0) «nX✝» ?qqlm) ?qqlB ?qqlz ?_; (case qqlm => k_mem); (case qqlB => assumption); (case qqlz => first | assumption | omega)); intro _ _)
  k_with "call builtin:bytes.find" => (k_here; (refine BB.find ?_); intro _ _)
  k_with "call builtin:bytes.startswith" => (k_here; (refine BB.starts ?_); intro _)
  k_with "eval ListComp" => (k_here; k_dflt (refine' LCg.ListComp_U (F₀ := ?qqa) ?qqb ?qqc ?qqd ?qqe ?qqf ?_; (case qqa => k_asm); (case qqb => rfl); (case qqc => decide); (case qqd => rfl); (case qqe => decide); (case qqf => rfl)))
  k_with "FinE" => ((unfold LCg.FinE); intro «D'✝» «h'✝» «tk'✝» «F'✝» «N'✝» «o1'✝»; (try simp only [LCg.Off1, and_true] at «o1'✝»); (try rw [lst_eq] at «N'✝»); (try dsimp only))
  k_with "exec Assign cons ListComp" => (k_here; k_dflt (refine' LCg.Assign_ListComp_U (F₀ := ?qqla) ?qqlb ?qqlc ?qqld ?qqle ?qqlf ?qqlg ?qqlh ?qqli ?qqlj ?_; (case qqla => k_asm); (case qqlb => rfl); (case qqlc => with_unfolding_all rfl); (case qqld => rfl); (case qqle => decide); (case qqlf => rfl); (case qqlg => decide); (case qqlh => rfl); (case qqli => rfl); (case qqlj => rfl)))
  k_with "FinA" => ((unfold LCg.FinA); intro «D'✝» «h'✝» «tk'✝» «F'✝» «N'✝» «o1'✝»; (try simp only [LCg.Off1, and_true] at «o1'✝»); (try rw [lst_eq] at «N'✝»); (try dsimp only))
  k_with "exec For Tuple Call cons nil" => (k_here; (rename Fr _ _ _ _ => «lF'✝»); (with_unfolding_all refine' For_turns «lF'✝» ?_; k_whole))
  k_with "call type:enumerate" => (k_here; refine enum_here ?_)
  k_with "call builtin:bytes.strip" => (k_here; (refine strip_bar (by first | omega | (simp only [List.size_toArray, List.length_nil]; omega)) ?_); intro «c'✝» «t'✝» «k'✝» «hc'✝» «hz'✝»)
  k_with "call ref" => (k_here; (with_reducible show wpAny _ _ (call (Value.ref 140) [Value.bytes _ _]) _ _ _); k_dflt (refine' bare_specN ?qqB ?qqF ?qqX ?qqN ?qqT ?qqk ?qqd ?qqu ?qqz ?_; (case qqB => k_asm); (case qqF => k_asm); (case qqX => k_asm); (case qqN => k_asm); (case qqT => k_asm); (case qqk => first | exact rfl | assumption); (case qqd => ktr_room); (case qqu => ktr_units); (case qqz => first | omega | (simp only [List.size_toArray, List.length_nil]; omega))); intro «c'✝» «t'✝» «h'✝» «tk'✝» «hc'✝» «hz'✝» «F'✝» «N'✝»)
  k_with "subscriptTail" => (k_here; (with_reducible show wpAny _ _ (subscriptTail _ (Expr.Slice _ _ _ _) (Value.bytes _ _) (Value.ref _)) _ _ _); (with_reducible rename Fr _ _ _ _ => «F'✝»); (with_reducible rename News _ _ _ _ => «N'✝»); (refine cut_N (s := ⟨_, _, _, _, _⟩) «F'✝» «N'✝» (by constructor) (by constructor) (by omega) ?_); clear «F'✝» «N'✝»; intro «c'✝» «h'✝» «t'✝» «k'✝» «hc'✝» «hz'✝» «F'✝» «N'✝»; (try dsimp only))
  k_with "call builtin:list.append" => (k_here; (with_reducible show wpAny _ _ (call (Value.builtin _) [Value.ref _, _]) _ _ _); k_dflt (refine' append_K ?qqk1 ?qqk2 ?qqk3 ?_ ?qqz; (case qqk1 => k_asm); (case qqk2 => k_asm); (case qqk3 => k_upd); (case qqz => assumption); k_whole); intro «h'✝» «F'✝» «N'✝»; (try k_sweep))
  k_with "eval ListComp" => (k_here; refine comp_here ?_)
  trivial
theorem rules48 : True := by
  k_with "exec Assign cons ListComp" => (k_here; refine exec_here ?_)
  trivial
set_option maxHeartbeats 8000000 in
theorem ulines_spec {b : Array UInt8} {tb : Tok} (B : Below A₀ base outer h₀) (F : Fr h₀ L s.heap m) (X : (hd.heap_39 w.params).In h₀) (N : News h₀ L s.heap news) (T : Top hd.view_39 loose mean mg mb h₀) (hk : cs.kind = .function)
    (hdp : dp + 40 < recursionLimit) (hu : un + 400 < cLine) (hz : b.size ≤ 2000)
    (ret : ∀ D vs h' tk, BB.BAre vs (BB.splitBy (unmark b) #[10]) → (∀ p ∈ news, p.1 < D) → Fr h₀ L h' m → News h₀ L h' ((D, listOf vs.toArray 0) :: news) → Q (.ref D) { s with heap := h', toks := tk }) :
    wpAny (model PySem.Challenge.rw_nt0003_01.prog w) (ktrTop dp un gd cn cs L a ccd cl outer) (call (.ref 80) [.bytes b tb]) Q E s := by
  revert X; k_fill; intro X
  refine wpAny_call ?_
  k_dflt cell_enter
  k_steps
  · rename BB.BAre _ _ => hB
    rename ∀ p ∈ news, _ => lt1
    rename _ = KBy.picked _ _ _ => hc
    rename BB.startsB _ _ = true => hst
    rename_i kF kN _ _
    refine ret _ _ _ _ ?_ lt1 kF kN
    have e : unmark b = KBy.picked b (some 3) none := if_pos hst
    rw [e]
    rw [hc] at hB
    exact hB
  · rename BB.BAre _ _ => hB
    rename ∀ p ∈ news, _ => lt1
    rename BB.startsB _ _ = false => hst
    rename_i kF kN _ _
    refine ret _ _ _ _ ?_ lt1 kF kN
    have e : unmark b = b := if_neg (by show ¬ BB.startsB b markB = true; rw [show BB.startsB b markB = false from hst]; decide)
    rw [e]
    exact hB
theorem rules49 : True := by
  k_with "call ref" => (k_here; (with_reducible show wpAny _ _ (call (Value.ref 80) [Value.bytes _ _]) _ _ _); k_dflt (refine' ulines_spec ?qqB ?qqF ?qqX ?qqN ?qqT ?qqk ?qqd ?qqu ?qqz ?_; (case qqB => k_asm); (case qqF => k_asm); (case qqX => k_asm); (case qqN => k_asm); (case qqT => k_asm); (case qqk => first | exact rfl | assumption); (case qqd => ktr_room); (case qqu => ktr_units); (case qqz => omega)); intro «D'✝» «vs'✝» «h'✝» «tk'✝» «hB'✝» «lt'✝» «F'✝» «N'✝»; (try k_lt «lt'✝»))
  trivial
set_option maxHeartbeats 8000000 in
theorem rows_spec {b : Array UInt8} {tb : Tok} (B : Below A₀ base outer h₀) (F : Fr h₀ L s.heap m) (X : (hd.heap_39 w.params).In h₀) (N : News h₀ L s.heap news) (T : Top hd.view_39 loose mean mg mb h₀) (hk : cs.kind = .function)
    (hdp : dp + 60 < recursionLimit) (hu : un + 600 < cLine) (hz : b.size ≤ 2000) (hn : (BB.splitBy (unmark b) #[10]).length ≤ 1000)
    (ret : ∀ D ys k tl h' tk, RowsIn tl ys (rowsAt rowB 0 (BB.splitBy (unmark b) #[10])) → (∀ p ∈ news, p ∈ tl) → Fr h₀ L h' m → News h₀ L h' ((D, listOf ys.toArray k) :: tl) → Q (.ref D) { s with heap := h', toks := tk }) :
    wpAny (model PySem.Challenge.rw_nt0003_01.prog w) (ktrTop dp un gd cn cs L a ccd cl outer) (call (.ref 85) [.bytes b tb]) Q E s := by
  revert X; k_fill; intro X
  refine wpAny_call ?_
  k_dflt cell_enter
  k_steps
  have hsz := split_sz (unmark b) #[10]
  have hum := unmark_size b
  rename BB.BAre _ (BB.splitBy _ _) => hB
  have hBl := hB.length
  rename Fr _ _ _ _ => lF
  rename News _ _ _ _ => lN
  rename ∀ p ∈ news, _ => lt1
  obtain ⟨bs, hbs⟩ : ∃ bs, bs = BB.splitBy (unmark b) #[10] := ⟨_, rfl⟩
  rw [← hbs] at hB hsz hn ret hBl
  refine enum_loop "found" ["at", "line", "cut", "body", "remark", "fields"] (fun i ys tl => RowsIn tl ys (rowsAt rowB 0 (bs.take i))) (base := (_, listOf (valsOf hB).toArray 0) :: news) (k := 0) rfl lF lN ?hall (.head _) ?hoff rfl .nil ?turn ?done
  case hall =>
    intro p hp
    rcases List.mem_cons.mp hp with rfl | hp
    · exact .tail _ (.head _)
    · rcases List.mem_cons.mp hp with rfl | hp
      · exact .head _
      · exact .tail _ (.tail _ hp)
  case hoff =>
    intro p hp
    rcases List.mem_cons.mp hp with rfl | hp
    · k_ne
    · exact Nat.ne_of_lt (lt1 p hp)
  case turn =>
    rintro i v ys k tl m₁ T t I h tk oe oi hv hP hbase hoff hFI hT F1 N1
    obtain ⟨b1, t, rfl, hzi, hbi, htk⟩ := bare_at hB (by simpa using hv) hsz
    clear lF lN
    have hil : i < bs.length := (List.getElem?_eq_some_iff.mp hbi).1
    have hys := rows_size hP hn
    have hp1 := KBc.size_picked_le b1 none (some (BB.findI b1 #[35]))
    have hp2 := KBc.size_picked_le b1 (some (BB.findI b1 #[35] + 1)) none
    k_steps
    · rename _ = barB _ => hcon
      subst hcon
      (unfold ExecHere; k_dflt (refine' LCg.Assign_ListComp_U (F₀ := ?qqla) ?qqlb ?qqlc ?qqld ?qqle ?qqlf ?qqlg ?qqlh ?qqli ?qqlj ?_; (case qqla => k_asm); (case qqlb => rfl); (case qqlc => with_unfolding_all rfl); (case qqld => rfl); (case qqle => decide); (case qqlf => rfl); (case qqlg => decide); (case qqlh => rfl); (case qqli => rfl); (case qqlj => rfl)))
      k_steps
      rename BB.BAre _ (BB.splitBy _ _) => hB2
      k_dflt (refine' LCg.CompSrc.ledger ?ch ?cF ?cN ?cm ?cz ?_; (case cF => k_asm); (case cN => k_asm); (case cm => k_mem); (case ch => rfl); (case cz => exact split_line hB2 (by omega)))
      intro g
      refine compRest_ind (fun j zs nw => nw = _ ∧ BB.BAre zs (((bsOf hB2).take j).map barB)) ?_ ?_ _ 0 [] _ (Nat.zero_add _) ⟨rfl, .nil⟩
      · rintro j zs news' v I2 oI C oC D1 m₂ h2 tk2 E' hj ⟨e, hzs⟩ hv2 hC hx F1 N1 off ne
        obtain ⟨bj, tj, rfl, hzj, hbj, htj⟩ := bare_at hB2 hv2 (split_sz _ _)
        k_steps
        rename Fr _ _ _ _ => F2
        rename News _ _ _ _ => N2
        rename _ = barB _ => hbar
        exact LCg.CompEnd.intro F2 N2 news' (fun _ h => h) off (.inr ⟨_, by rw [e]; exact .head _, rfl, _, rfl⟩) ⟨e, by rw [htj, List.map_append]; rw [hbar]; exact BAre_append1 hzs _ _⟩
      · rintro zs news' ⟨rfl, hzs⟩
        k_steps
        rename Fr _ _ _ _ => F2
        rename News _ _ _ _ => N2
        rename _ = barB _ => hrem
        subst hrem
        refine EnumEnd.two (ys := ys) (k := k + 1) F2 N2 ?_ ?_ ?_ ?_ ?_ ?_ ?_ rfl ?_
        · k_mem
        · k_mem
        · k_mem
        · exact fun p hp => by repeat (first | exact hp | refine List.mem_cons_of_mem _ ?_)
        · refine ⟨?_, ?_, ?_⟩ <;> k_ne
        · refine ⟨?_, ?_, ?_⟩ <;> k_ne
        · show RowsIn _ _ (rowsAt rowB 0 (bs.take (i + 1)))
          rw [rowsAt_some htk (by omega) (rowB_some (pre_lt (by assumption)) (post_lt (by assumption)) (by assumption))]
          rw [List.take_of_length_le (by rw [← hB2.length]; simp)] at hzs
          exact (hP.mono fun p hp => .tail _ (.tail _ hp)).append (.three (.head _) (.tail _ (.head _)) hzs)
        · intro z hz1 hz2
          have g0 : z ≠ ("fields" : Str) := fun e => by rw [e] at hz2; revert hz2; decide
          have g1 : z ≠ ("remark" : Str) := fun e => by rw [e] at hz2; revert hz2; decide
          have g2 : z ≠ ("body" : Str) := fun e => by rw [e] at hz2; revert hz2; decide
          have g3 : z ≠ ("cut" : Str) := fun e => by rw [e] at hz2; revert hz2; decide
          have g4 : z ≠ ("line" : Str) := fun e => by rw [e] at hz2; revert hz2; decide
          have g5 : z ≠ ("at" : Str) := fun e => by rw [e] at hz2; revert hz2; decide
          show (if z = _ then _ else _) = _; (try dsimp only)
          rw [if_neg g0, if_neg g1, if_neg g2, if_neg g3, if_neg g4, if_neg g5, if_neg hz1, hz2]
          rfl
    · rename Fr _ _ _ _ => F2
      rename News _ _ _ _ => N2
      rename _ = barB _ => hcon
      subst hcon
      refine EnumEnd.intro (ys := ys) (k := k) [] F2 N2 ?_ ?_ ?_ ?_ ?_ ?_ ?_ rfl ?_
      · k_mem
      · k_mem
      · k_mem
      · exact fun _ h => nomatch h
      · exact fun p hp => by repeat (first | exact hp | refine List.mem_cons_of_mem _ ?_)
      · exact fun _ h => nomatch h
      · show RowsIn tl ys (rowsAt rowB 0 (bs.take (i + 1)))
        rw [rowsAt_none htk (by omega) (rowB_none (pre_lt (by assumption)) (by assumption))]
        exact hP
      · intro z hz1 hz2
        have g0 : z ≠ ("remark" : Str) := fun e => by rw [e] at hz2; revert hz2; decide
        have g1 : z ≠ ("body" : Str) := fun e => by rw [e] at hz2; revert hz2; decide
        have g2 : z ≠ ("cut" : Str) := fun e => by rw [e] at hz2; revert hz2; decide
        have g3 : z ≠ ("line" : Str) := fun e => by rw [e] at hz2; revert hz2; decide
        have g4 : z ≠ ("at" : Str) := fun e => by rw [e] at hz2; revert hz2; decide
        show (if z = _ then _ else _) = _; (try dsimp only)
        rw [if_neg g0, if_neg g1, if_neg g2, if_neg g3, if_neg g4, if_neg hz1, hz2]
        rfl
    · rename _ = barB _ => hcon
      subst hcon
      (unfold ExecHere; k_dflt (refine' LCg.Assign_ListComp_U (F₀ := ?qqla) ?qqlb ?qqlc ?qqld ?qqle ?qqlf ?qqlg ?qqlh ?qqli ?qqlj ?_; (case qqla => k_asm); (case qqlb => rfl); (case qqlc => with_unfolding_all rfl); (case qqld => rfl); (case qqle => decide); (case qqlf => rfl); (case qqlg => decide); (case qqlh => rfl); (case qqli => rfl); (case qqlj => rfl)))
      k_steps
      rename BB.BAre _ (BB.splitBy _ _) => hB2
      k_dflt (refine' LCg.CompSrc.ledger ?ch ?cF ?cN ?cm ?cz ?_; (case cF => k_asm); (case cN => k_asm); (case cm => k_mem); (case ch => rfl); (case cz => exact split_line hB2 (by omega)))
      intro g
      refine compRest_ind (fun j zs nw => nw = _ ∧ BB.BAre zs (((bsOf hB2).take j).map barB)) ?_ ?_ _ 0 [] _ (Nat.zero_add _) ⟨rfl, .nil⟩
      · rintro j zs news' v I2 oI C oC D1 m₂ h2 tk2 E' hj ⟨e, hzs⟩ hv2 hC hx F1 N1 off ne
        obtain ⟨bj, tj, rfl, hzj, hbj, htj⟩ := bare_at hB2 hv2 (split_sz _ _)
        k_steps
        rename Fr _ _ _ _ => F2
        rename News _ _ _ _ => N2
        rename _ = barB _ => hbar
        exact LCg.CompEnd.intro F2 N2 news' (fun _ h => h) off (.inr ⟨_, by rw [e]; exact .head _, rfl, _, rfl⟩) ⟨e, by rw [htj, List.map_append]; rw [hbar]; exact BAre_append1 hzs _ _⟩
      · rintro zs news' ⟨rfl, hzs⟩
        k_steps
        rename Fr _ _ _ _ => F2
        rename News _ _ _ _ => N2
        rename _ = barB _ => hrem
        subst hrem
        refine EnumEnd.two (ys := ys) (k := k + 1) F2 N2 ?_ ?_ ?_ ?_ ?_ ?_ ?_ rfl ?_
        · k_mem
        · k_mem
        · k_mem
        · exact fun p hp => by repeat (first | exact hp | refine List.mem_cons_of_mem _ ?_)
        · refine ⟨?_, ?_, ?_⟩ <;> k_ne
        · refine ⟨?_, ?_, ?_⟩ <;> k_ne
        · show RowsIn _ _ (rowsAt rowB 0 (bs.take (i + 1)))
          rw [rowsAt_some htk (by omega) (rowB_some ((pre_ge (by assumption)).trans (by assumption : _ = KBy.picked b1 none (some (BB.findI b1 #[35]))).symm) ((post_ge (by assumption)).trans (by assumption : _ = KBy.picked b1 (some (BB.findI b1 #[35] + 1)) none).symm) (by assumption))]
          rw [List.take_of_length_le (by rw [← hB2.length]; simp)] at hzs
          exact (hP.mono fun p hp => .tail _ (.tail _ hp)).append (.three (.head _) (.tail _ (.head _)) hzs)
        · intro z hz1 hz2
          have g0 : z ≠ ("fields" : Str) := fun e => by rw [e] at hz2; revert hz2; decide
          have g1 : z ≠ ("remark" : Str) := fun e => by rw [e] at hz2; revert hz2; decide
          have g2 : z ≠ ("body" : Str) := fun e => by rw [e] at hz2; revert hz2; decide
          have g3 : z ≠ ("cut" : Str) := fun e => by rw [e] at hz2; revert hz2; decide
          have g4 : z ≠ ("line" : Str) := fun e => by rw [e] at hz2; revert hz2; decide
          have g5 : z ≠ ("at" : Str) := fun e => by rw [e] at hz2; revert hz2; decide
          show (if z = _ then _ else _) = _; (try dsimp only)
          rw [if_neg g0, if_neg g1, if_neg g2, if_neg g3, if_neg g4, if_neg g5, if_neg hz1, hz2]
          rfl
    · rename Fr _ _ _ _ => F2
      rename News _ _ _ _ => N2
      rename _ = barB _ => hcon
      subst hcon
      refine EnumEnd.intro (ys := ys) (k := k) [] F2 N2 ?_ ?_ ?_ ?_ ?_ ?_ ?_ rfl ?_
      · k_mem
      · k_mem
      · k_mem
      · exact fun _ h => nomatch h
      · exact fun p hp => by repeat (first | exact hp | refine List.mem_cons_of_mem _ ?_)
      · exact fun _ h => nomatch h
      · show RowsIn tl ys (rowsAt rowB 0 (bs.take (i + 1)))
        rw [rowsAt_none htk (by omega) (rowB_none ((pre_ge (by assumption)).trans (by assumption : _ = KBy.picked b1 none (some (BB.findI b1 #[35]))).symm) (by assumption))]
        exact hP
      · intro z hz1 hz2
        have g0 : z ≠ ("remark" : Str) := fun e => by rw [e] at hz2; revert hz2; decide
        have g1 : z ≠ ("body" : Str) := fun e => by rw [e] at hz2; revert hz2; decide
        have g2 : z ≠ ("cut" : Str) := fun e => by rw [e] at hz2; revert hz2; decide
        have g3 : z ≠ ("line" : Str) := fun e => by rw [e] at hz2; revert hz2; decide
        have g4 : z ≠ ("at" : Str) := fun e => by rw [e] at hz2; revert hz2; decide
        show (if z = _ then _ else _) = _; (try dsimp only)
        rw [if_neg g0, if_neg g1, if_neg g2, if_neg g3, if_neg g4, if_neg hz1, hz2]
        rfl
  case done =>
    rintro ys k tl m₁ h tk hP hbase F1 N1
    k_steps
    rename_i kF kN _ _
    rw [hBl, List.take_length] at hP
    exact ret _ _ _ _ _ _ hP (fun p hp => hbase p (.tail _ hp)) kF kN
end
end Mine
namespace Mine
theorem rules53 : True := by
  w_top off
  k_with_none
  k_with "execs cons" => (k_here; (try k_gentoks); (with_reducible refine execs_hide ?_); intro «Q✝» «k✝»; try dsimp only)
  trivial
theorem lmissB_some {b pre r t : Array UInt8} (h0 : ¬ BB.findI b #[35] < 0) (h1 : preB b = pre) (h2 : barB (postB b) = r) (h : ((barB pre).toList == ([] : List UInt8)) = true) (h3 : ((KBy.picked r none (some 9)).toList == missB.toList) = true) (h4 : KBy.picked r (some 9) none = t) : lmissB b = some (fieldsB t, none) := by
  unfold lmissB cutB
  rw [h1, h2, h4, if_pos ⟨by omega, by simpa using h, by simpa using h3⟩]
theorem lmissB_none1 {b : Array UInt8} (h0 : BB.findI b #[35] < 0) : lmissB b = none := by
  unfold lmissB cutB; rw [if_neg (by omega)]
theorem lmissB_none2 {b pre : Array UInt8} (h1 : preB b = pre) (h : ((barB pre).toList == ([] : List UInt8)) = false) : lmissB b = none := by
  unfold lmissB; rw [h1, if_neg (fun e => by rw [e.2.1] at h; exact absurd h (by decide))]
theorem lmissB_none3 {b r : Array UInt8} (h2 : barB (postB b) = r) (h3 : ((KBy.picked r none (some 9)).toList == missB.toList) = false) : lmissB b = none := by
  unfold lmissB; rw [h2, if_neg (fun e => by rw [e.2.2] at h3; revert h3; decide)]
theorem pmissB_some {b pre r t u : Array UInt8} (h0 : ¬ BB.findI b #[35] < 0) (h1 : preB b = pre) (h2 : barB (postB b) = r) (h : ((barB pre).toList == ([] : List UInt8)) = true) (h3 : BB.startsB r missB = true) (h4 : KBy.picked r (some 9) none = t) (h5 : preB t = u) : pmissB b = some (fieldsB u, none) := by
  unfold pmissB cutB
  rw [h1, h2, h4, h5, if_pos ⟨by omega, by simpa using h, h3⟩]
theorem pmissB_none1 {b : Array UInt8} (h0 : BB.findI b #[35] < 0) : pmissB b = none := by
  unfold pmissB cutB; rw [if_neg (by omega)]
theorem pmissB_none2 {b pre : Array UInt8} (h1 : preB b = pre) (h : ((barB pre).toList == ([] : List UInt8)) = false) : pmissB b = none := by
  unfold pmissB; rw [h1, if_neg (fun e => by rw [e.2.1] at h; exact absurd h (by decide))]
theorem pmissB_none3 {b r : Array UInt8} (h2 : barB (postB b) = r) (h3 : BB.startsB r missB = false) : pmissB b = none := by
  unfold pmissB; rw [h2, if_neg (fun e => by rw [e.2.2] at h3; cases h3)]
theorem lmissB_some2 {b c1 c2 c3 c4 c5 c6 : Array UInt8} (h0 : ¬ BB.findI b #[35] < 0) (e6 : c6 = KBy.picked c4 (some 9) none) (e4 : c4 = barB c3) (e3 : c3 = KBy.picked b (some (BB.findI b #[35] + 1)) none) (e5 : c5 = KBy.picked c4 none (some 9)) (e1 : c1 = KBy.picked b none (some (BB.findI b #[35]))) (e2 : c2 = barB c1)
    (h : (c2.toList == ([] : List UInt8)) = true) (h3 : (c5.toList == missB.toList) = true) : lmissB b = some (fieldsB c6, none) := by
  subst e6 e5 e4 e3 e2 e1
  exact lmissB_some h0 (pre_ge h0) (congrArg barB (post_ge h0)) h h3 rfl
theorem lmissB_none32 {b c3 c4 c5 : Array UInt8} (h0 : ¬ BB.findI b #[35] < 0) (e3 : c3 = KBy.picked b (some (BB.findI b #[35] + 1)) none) (e4 : c4 = barB c3) (e5 : c5 = KBy.picked c4 none (some 9)) (h3 : (c5.toList == missB.toList) = false) : lmissB b = none := by
  subst e5 e4 e3
  exact lmissB_none3 (congrArg barB (post_ge h0)) h3
theorem lmissB_none22 {b c1 c2 : Array UInt8} (h0 : ¬ BB.findI b #[35] < 0) (e1 : c1 = KBy.picked b none (some (BB.findI b #[35]))) (e2 : c2 = barB c1) (h : (c2.toList == ([] : List UInt8)) = false) : lmissB b = none := by
  subst e2 e1
  exact lmissB_none2 (pre_ge h0) h
section
variable {w : World} {loose : List Str} {mean : ExcName → Option Value} {mg mb : Str → Option Value} {dp un : Nat} {gd : Option (List Code)} {cn : Str} {cs : Scope} {a : Addr} {ccd : Value} {cl : List (Str × Addr)} {outer : List Env} {A₀ : Around} {base h₀ : Heap} {L : Addr} {m : Str → Option Value} {s : Shared} {Q E : Value → Shared → Prop} {news : List (Addr × Obj)}
theorem rules51 : True := by
  k_with "getMethod bytes" => (k_here; first | (with_reducible refine BB.find_method ?_) | (with_reducible refine BB.strip_method ?_) | (with_reducible refine BB.split_method ?_) | (with_reducible refine BB.join_method ?_) | (with_reducible refine BB.starts_method ?_))
  k_with "call builtin:bytes.split" => (k_here; k_dflt (refine' split_K ?qqbsF ?qqbsN ?qqbsz ?qqbsc ?_; (case qqbsF => k_asm); (case qqbsN => k_asm); (case qqbsz => omega); (case qqbsc => rfl)); intro «D'✝» «h'✝» «vs'✝» «tk'✝» «hB'✝» «l1✝» «F'✝» «N'✝»; (try k_lt «l1✝»))
  k_with "call builtin:len" => (k_here; (with_reducible show wpAny _ _ (call (Value.builtin "len") [Value.ref _]) _ _ _); (rename News _ _ _ _ => «nX✝»); k_dflt (refine' lenB (News.isList (n := 0) «nX✝» ?qqlm) ?qqlB ?qqlz ?_; (case qqlm => k_mem); (case qqlB => assumption); (case qqlz => first | assumption | omega)); intro _ _)
  k_with "call builtin:bytes.find" => (k_here; (refine BB.find ?_); intro _ _)
  k_with "call builtin:bytes.startswith" => (k_here; (refine BB.starts ?_); intro _)
  k_with "eval ListComp" => (k_here; k_dflt (refine' LCg.ListComp_U (F₀ := ?qqa) ?qqb ?qqc ?qqd ?qqe ?qqf ?_; (case qqa => k_asm); (case qqb => rfl); (case qqc => decide); (case qqd => rfl); (case qqe => decide); (case qqf => rfl)))
  k_with "FinE" => ((unfold LCg.FinE); intro «D'✝» «h'✝» «tk'✝» «F'✝» «N'✝» «o1'✝»; (try simp only [LCg.Off1, and_true] at «o1'✝»); (try rw [lst_eq] at «N'✝»); (try dsimp only))
  k_with "exec Assign cons ListComp" => (k_here; k_dflt (refine' LCg.Assign_ListComp_U (F₀ := ?qqla) ?qqlb ?qqlc ?qqld ?qqle ?qqlf ?qqlg ?qqlh ?qqli ?qqlj ?_; (case qqla => k_asm); (case qqlb => rfl); (case qqlc => with_unfolding_all rfl); (case qqld => rfl); (case qqle => decide); (case qqlf => rfl); (case qqlg => decide); (case qqlh => rfl); (case qqli => rfl); (case qqlj => rfl)))
  k_with "FinA" => ((unfold LCg.FinA); intro «D'✝» «h'✝» «tk'✝» «F'✝» «N'✝» «o1'✝»; (try simp only [LCg.Off1, and_true] at «o1'✝»); (try rw [lst_eq] at «N'✝»); (try dsimp only))
  k_with "exec For Tuple Call cons nil" => (k_here; (rename Fr _ _ _ _ => «lF'✝»); (with_unfolding_all refine' For_turns «lF'✝» ?_; k_whole))
  k_with "call type:enumerate" => (k_here; refine enum_here ?_)
  k_with "call builtin:bytes.strip" => (k_here; (refine strip_bar (by first | omega | (simp only [List.size_toArray, List.length_nil]; omega)) ?_); intro «c'✝» «t'✝» «k'✝» «hc'✝» «hz'✝»)
  k_with "call ref" => (k_here; (with_reducible show wpAny _ _ (call (Value.ref 140) [Value.bytes _ _]) _ _ _); k_dflt (refine' bare_specN ?qqB ?qqF ?qqX ?qqN ?qqT ?qqk ?qqd ?qqu ?qqz ?_; (case qqB => k_asm); (case qqF => k_asm); (case qqX => k_asm); (case qqN => k_asm); (case qqT => k_asm); (case qqk => first | exact rfl | assumption); (case qqd => ktr_room); (case qqu => ktr_units); (case qqz => first | omega | (simp only [List.size_toArray, List.length_nil]; omega))); intro «c'✝» «t'✝» «h'✝» «tk'✝» «hc'✝» «hz'✝» «F'✝» «N'✝»)
  k_with "subscriptTail" => (k_here; (with_reducible show wpAny _ _ (subscriptTail _ (Expr.Slice _ _ _ _) (Value.bytes _ _) (Value.ref _)) _ _ _); (with_reducible rename Fr _ _ _ _ => «F'✝»); (with_reducible rename News _ _ _ _ => «N'✝»); (refine cut_N (s := ⟨_, _, _, _, _⟩) «F'✝» «N'✝» (by constructor) (by constructor) (by omega) ?_); clear «F'✝» «N'✝»; intro «c'✝» «h'✝» «t'✝» «k'✝» «hc'✝» «hz'✝» «F'✝» «N'✝»; (try dsimp only))
  k_with "call builtin:list.append" => (k_here; (with_reducible show wpAny _ _ (call (Value.builtin _) [Value.ref _, _]) _ _ _); k_dflt (refine' append_K ?qqk1 ?qqk2 ?qqk3 ?_ ?qqz; (case qqk1 => k_asm); (case qqk2 => k_asm); (case qqk3 => k_upd); (case qqz => assumption); k_whole); intro «h'✝» «F'✝» «N'✝»; (try k_sweep))
  k_with "eval ListComp" => (k_here; refine comp_here ?_)
  trivial
theorem rules52 : True := by
  k_with "exec Assign cons ListComp" => (k_here; refine exec_here ?_)
  trivial
set_option maxHeartbeats 8000000 in
theorem lmiss_spec {l : Addr} {vs : List Value} {bs : List (Array UInt8)} {n : Nat} (B : Below A₀ base outer h₀) (F : Fr h₀ L s.heap m) (X : (hd.heap_39 w.params).In h₀) (N : News h₀ L s.heap news) (T : Top hd.view_39 loose mean mg mb h₀) (hk : cs.kind = .function)
    (hdp : dp + 60 < recursionLimit) (hu : un + 600 < cLine) (hl : (l, listOf vs.toArray n) ∈ news) (hB : BB.BAre vs bs) (hz : ∀ p ∈ bs, p.size ≤ 2000) (hn : bs.length ≤ 1000)
    (ret : ∀ D ys k tl h' tk, RowsIn tl ys (rowsAt lmissB 0 bs) → (∀ p ∈ news, p ∈ tl) → Fr h₀ L h' m → News h₀ L h' ((D, listOf ys.toArray k) :: tl) → Q (.ref D) { s with heap := h', toks := tk }) :
    wpAny (model PySem.Challenge.rw_nt0003_01.prog w) (ktrTop dp un gd cn cs L a ccd cl outer) (call (.ref 150) [.ref l]) Q E s := by
  revert X; k_fill; intro X
  refine wpAny_call ?_
  k_dflt cell_enter
  k_steps
  have hBl := hB.length
  rename Fr _ _ _ _ => lF
  rename News _ _ _ _ => lN
  rename ∀ p ∈ news, _ => lt1
  refine enum_loop "found" ["at", "line", "spot", "remark"] (fun i ys tl => RowsIn tl ys (rowsAt lmissB 0 (bs.take i))) rfl lF lN (fun _ h => h) hl (fun p hp => Nat.ne_of_lt (lt1 p hp)) rfl .nil ?turn ?done
  case turn =>
    rintro i v ys k tl m₁ T t I h tk oe oi hv hP hbase hoff hFI hT F1 N1
    obtain ⟨b, t, rfl, hzi, hbi, htk⟩ := bare_at hB (by simpa using hv) hz
    clear lF lN
    have hil : i < bs.length := (List.getElem?_eq_some_iff.mp hbi).1
    have hys := rows_size hP hn
    k_steps
    · have h0 : ¬ BB.findI b #[35] < 0 := by omega
      (unfold CompHere; k_dflt (refine' LCg.ListComp_U (F₀ := ?qqa) ?qqb ?qqc ?qqd ?qqe ?qqf ?_; (case qqa => k_asm); (case qqb => rfl); (case qqc => decide); (case qqd => rfl); (case qqe => decide); (case qqf => rfl)))
      k_steps
      rename BB.BAre _ (BB.splitBy _ _) => hB2
      k_dflt (refine' LCg.CompSrc.ledger ?ch ?cF ?cN ?cm ?cz ?_; (case cF => k_asm); (case cN => k_asm); (case cm => k_mem); (case ch => rfl); (case cz => exact split_line hB2 (by omega)))
      intro g
      refine compRest_ind (fun j zs nw => nw = _ ∧ BB.BAre zs (((bsOf hB2).take j).map barB)) ?_ ?_ _ 0 [] _ (Nat.zero_add _) ⟨rfl, .nil⟩
      · rintro j zs news' v I2 oI C oC D1 m₂ h2 tk2 E' hj ⟨e, hzs⟩ hv2 hC hx F1 N1 off ne
        obtain ⟨bj, tj, rfl, hzj, hbj, htj⟩ := bare_at hB2 hv2 (split_sz _ _)
        k_steps
        rename Fr _ _ _ _ => F2
        rename News _ _ _ _ => N2
        rename _ = barB _ => hbar
        exact LCg.CompEnd.intro F2 N2 news' (fun _ h => h) off (.inr ⟨_, by rw [e]; exact .head _, rfl, _, rfl⟩) ⟨e, by rw [htj, List.map_append]; rw [hbar]; exact BAre_append1 hzs _ _⟩
      · rintro zs news' ⟨rfl, hzs⟩
        k_steps
        rename Fr _ _ _ _ => F2
        rename News _ _ _ _ => N2
        refine EnumEnd.two (ys := ys) (k := k + 1) F2 N2 ?_ ?_ ?_ ?_ ?_ ?_ ?_ rfl ?_
        · k_mem
        · k_mem
        · k_mem
        · exact fun p hp => by repeat (first | exact hp | refine List.mem_cons_of_mem _ ?_)
        · refine ⟨?_, ?_, ?_⟩ <;> k_ne
        · refine ⟨?_, ?_, ?_⟩ <;> k_ne
        · show RowsIn _ _ (rowsAt lmissB 0 (bs.take (i + 1)))
          rw [rowsAt_some htk (by omega) (lmissB_some2 h0 (by assumption) (by assumption) (by assumption) (by assumption) (by assumption) (by assumption) (by assumption) (by assumption))]
          rw [List.take_of_length_le (by rw [← hB2.length]; simp)] at hzs
          exact (hP.mono fun p hp => .tail _ (.tail _ hp)).append (.two (.head _) (.tail _ (.head _)) hzs)
        · intro z hz1 hz2
          have g0 : z ≠ ("remark" : Str) := fun e => by rw [e] at hz2; revert hz2; decide
          have g1 : z ≠ ("spot" : Str) := fun e => by rw [e] at hz2; revert hz2; decide
          have g2 : z ≠ ("line" : Str) := fun e => by rw [e] at hz2; revert hz2; decide
          have g3 : z ≠ ("at" : Str) := fun e => by rw [e] at hz2; revert hz2; decide
          show (if z = _ then _ else _) = _
          (try dsimp only)
          rw [if_neg g0, if_neg g1, if_neg g2, if_neg g3, if_neg hz1, hz2]
          rfl
    · rename Fr _ _ _ _ => F2
      rename News _ _ _ _ => N2
      have h0 : ¬ BB.findI b #[35] < 0 := by omega
      refine EnumEnd.intro (ys := ys) (k := k) [] F2 N2 ?_ ?_ ?_ ?_ ?_ ?_ ?_ rfl ?_
      · k_mem
      · k_mem
      · k_mem
      · exact fun _ h => nomatch h
      · exact fun p hp => by repeat (first | exact hp | refine List.mem_cons_of_mem _ ?_)
      · exact fun _ h => nomatch h
      · show RowsIn tl ys (rowsAt lmissB 0 (bs.take (i + 1)))
        rw [rowsAt_none htk (by omega) (lmissB_none32 h0 (by assumption) (by assumption) (by assumption) (by assumption))]
        exact hP
      · intro z hz1 hz2
        have g0 : z ≠ ("remark" : Str) := fun e => by rw [e] at hz2; revert hz2; decide
        have g1 : z ≠ ("spot" : Str) := fun e => by rw [e] at hz2; revert hz2; decide
        have g2 : z ≠ ("line" : Str) := fun e => by rw [e] at hz2; revert hz2; decide
        have g3 : z ≠ ("at" : Str) := fun e => by rw [e] at hz2; revert hz2; decide
        show (if z = _ then _ else _) = _
        (try dsimp only)
        rw [if_neg g0, if_neg g1, if_neg g2, if_neg g3, if_neg hz1, hz2]
        rfl
    · rename Fr _ _ _ _ => F2
      rename News _ _ _ _ => N2
      have h0 : ¬ BB.findI b #[35] < 0 := by omega
      refine EnumEnd.intro (ys := ys) (k := k) [] F2 N2 ?_ ?_ ?_ ?_ ?_ ?_ ?_ rfl ?_
      · k_mem
      · k_mem
      · k_mem
      · exact fun _ h => nomatch h
      · exact fun p hp => by repeat (first | exact hp | refine List.mem_cons_of_mem _ ?_)
      · exact fun _ h => nomatch h
      · show RowsIn tl ys (rowsAt lmissB 0 (bs.take (i + 1)))
        rw [rowsAt_none htk (by omega) (lmissB_none22 h0 (by assumption) (by assumption) (by assumption))]
        exact hP
      · intro z hz1 hz2
        have g0 : z ≠ ("remark" : Str) := fun e => by rw [e] at hz2; revert hz2; decide
        have g1 : z ≠ ("spot" : Str) := fun e => by rw [e] at hz2; revert hz2; decide
        have g2 : z ≠ ("line" : Str) := fun e => by rw [e] at hz2; revert hz2; decide
        have g3 : z ≠ ("at" : Str) := fun e => by rw [e] at hz2; revert hz2; decide
        show (if z = _ then _ else _) = _
        (try dsimp only)
        rw [if_neg g0, if_neg g1, if_neg g2, if_neg g3, if_neg hz1, hz2]
        rfl
    · rename Fr _ _ _ _ => F2
      rename News _ _ _ _ => N2
      refine EnumEnd.intro (ys := ys) (k := k) [] F2 N2 ?_ ?_ ?_ ?_ ?_ ?_ ?_ rfl ?_
      · k_mem
      · k_mem
      · k_mem
      · exact fun _ h => nomatch h
      · exact fun p hp => by repeat (first | exact hp | refine List.mem_cons_of_mem _ ?_)
      · exact fun _ h => nomatch h
      · show RowsIn tl ys (rowsAt lmissB 0 (bs.take (i + 1)))
        rw [rowsAt_none htk (by omega) (lmissB_none1 (by omega))]
        exact hP
      · intro z hz1 hz2
        have g0 : z ≠ ("remark" : Str) := fun e => by rw [e] at hz2; revert hz2; decide
        have g1 : z ≠ ("spot" : Str) := fun e => by rw [e] at hz2; revert hz2; decide
        have g2 : z ≠ ("line" : Str) := fun e => by rw [e] at hz2; revert hz2; decide
        have g3 : z ≠ ("at" : Str) := fun e => by rw [e] at hz2; revert hz2; decide
        show (if z = _ then _ else _) = _
        (try dsimp only)
        rw [if_neg g0, if_neg g1, if_neg g2, if_neg g3, if_neg hz1, hz2]
        rfl
  case done =>
    rintro ys k tl m₁ h tk hP hbase F1 N1
    k_steps
    rename_i kF kN _ _
    rw [hBl, List.take_length] at hP
    exact ret _ _ _ _ _ _ hP hbase kF kN
end
end Mine
namespace Mine
theorem rules57 : True := by
  w_top off
  k_with_none
  k_with "execs cons" => (k_here; (try k_gentoks); (with_reducible refine execs_hide ?_); intro «Q✝» «k✝»; try dsimp only)
  trivial
theorem pmissB_some3 {b c1 c2 c3 c4 c6 c7 : Array UInt8} (h0 : ¬ BB.findI b #[35] < 0) (e7 : c7 = KBy.picked c6 none (some (BB.findI c6 #[35]))) (h7 : ¬ BB.findI c6 #[35] < 0) (e6 : c6 = KBy.picked c4 (some 9) none) (e4 : c4 = barB c3) (e3 : c3 = KBy.picked b (some (BB.findI b #[35] + 1)) none) (h3 : BB.startsB c4 missB = true) (e1 : c1 = KBy.picked b none (some (BB.findI b #[35]))) (e2 : c2 = barB c1)
    (h : (c2.toList == ([] : List UInt8)) = true) : pmissB b = some (fieldsB c7, none) := by
  subst e4 e3 e2 e1
  exact pmissB_some h0 (pre_ge h0) (congrArg barB (post_ge h0)) h h3 e6.symm ((pre_ge h7).trans e7.symm)
theorem pmissB_some2 {b c1 c2 c3 c4 c6 : Array UInt8} (h0 : ¬ BB.findI b #[35] < 0) (h7 : BB.findI c6 #[35] < 0) (e6 : c6 = KBy.picked c4 (some 9) none) (e4 : c4 = barB c3) (e3 : c3 = KBy.picked b (some (BB.findI b #[35] + 1)) none) (h3 : BB.startsB c4 missB = true) (e1 : c1 = KBy.picked b none (some (BB.findI b #[35]))) (e2 : c2 = barB c1)
    (h : (c2.toList == ([] : List UInt8)) = true) : pmissB b = some (fieldsB c6, none) := by
  subst e4 e3 e2 e1
  exact pmissB_some h0 (pre_ge h0) (congrArg barB (post_ge h0)) h h3 e6.symm (pre_lt h7)
theorem pmissB_none32 {b c3 c4 : Array UInt8} (h0 : ¬ BB.findI b #[35] < 0) (e3 : c3 = KBy.picked b (some (BB.findI b #[35] + 1)) none) (e4 : c4 = barB c3) (h3 : BB.startsB c4 missB = false) : pmissB b = none := by
  subst e4 e3
  exact pmissB_none3 (congrArg barB (post_ge h0)) h3
theorem pmissB_none22 {b c1 c2 : Array UInt8} (h0 : ¬ BB.findI b #[35] < 0) (e1 : c1 = KBy.picked b none (some (BB.findI b #[35]))) (e2 : c2 = barB c1) (h : (c2.toList == ([] : List UInt8)) = false) : pmissB b = none := by
  subst e2 e1
  exact pmissB_none2 (pre_ge h0) h
section
variable {w : World} {loose : List Str} {mean : ExcName → Option Value} {mg mb : Str → Option Value} {dp un : Nat} {gd : Option (List Code)} {cn : Str} {cs : Scope} {a : Addr} {ccd : Value} {cl : List (Str × Addr)} {outer : List Env} {A₀ : Around} {base h₀ : Heap} {L : Addr} {m : Str → Option Value} {s : Shared} {Q E : Value → Shared → Prop} {news : List (Addr × Obj)}
theorem rules54 : True := by
  k_with "getMethod bytes" => (k_here; first | (with_reducible refine BB.find_method ?_) | (with_reducible refine BB.strip_method ?_) | (with_reducible refine BB.split_method ?_) | (with_reducible refine BB.join_method ?_) | (with_reducible refine BB.starts_method ?_))
  k_with "call builtin:bytes.split" => (k_here; k_dflt (refine' split_K ?qqbsF ?qqbsN ?qqbsz ?qqbsc ?_; (case qqbsF => k_asm); (case qqbsN => k_asm); (case qqbsz => omega); (case qqbsc => rfl)); intro «D'✝» «h'✝» «vs'✝» «tk'✝» «hB'✝» «l1✝» «F'✝» «N'✝»; (try k_lt «l1✝»))
  k_with "call builtin:len" => (k_here; (with_reducible show wpAny _ _ (call (Value.builtin "len") [Value.ref _]) _ _ _); (rename News _ _ _ _ => «nX✝»); k_dflt (refine' lenB (News.isList (n := 0) «nX✝» ?qqlm) ?qqlB ?qqlz ?_; (case qqlm => k_mem); (case qqlB => assumption); (case qqlz => first | assumption | omega)); intro _ _)
  k_with "call builtin:bytes.find" => (k_here; (refine BB.find ?_); intro _ _)
  k_with "call builtin:bytes.startswith" => (k_here; (refine BB.starts ?_); intro _)
  k_with "eval ListComp" => (k_here; k_dflt (refine' LCg.ListComp_U (F₀ := ?qqa) ?qqb ?qqc ?qqd ?qqe ?qqf ?_; (case qqa => k_asm); (case qqb => rfl); (case qqc => decide); (case qqd => rfl); (case qqe => decide); (case qqf => rfl)))
  k_with "FinE" => ((unfold LCg.FinE); intro «D'✝» «h'✝» «tk'✝» «F'✝» «N'✝» «o1'✝»; (try simp only [LCg.Off1, and_true] at «o1'✝»); (try rw [lst_eq] at «N'✝»); (try dsimp only))
  k_with "exec Assign cons ListComp" => (k_here; k_dflt (refine' LCg.Assign_ListComp_U (F₀ := ?qqla) ?qqlb ?qqlc ?qqld ?qqle ?qqlf ?qqlg ?qqlh ?qqli ?qqlj ?_; (case qqla => k_asm); (case qqlb => rfl); (case qqlc => with_unfolding_all rfl); (case qqld => rfl); (case qqle => decide); (case qqlf => rfl); (case qqlg => decide); (case qqlh => rfl); (case qqli => rfl); (case qqlj => rfl)))
  k_with "FinA" => ((unfold LCg.FinA); intro «D'✝» «h'✝» «tk'✝» «F'✝» «N'✝» «o1'✝»; (try simp only [LCg.Off1, and_true] at «o1'✝»); (try rw [lst_eq] at «N'✝»); (try dsimp only))
  k_with "exec For Tuple Call cons nil" => (k_here; (rename Fr _ _ _ _ => «lF'✝»); (with_unfolding_all refine' For_turns «lF'✝» ?_; k_whole))
  k_with "call type:enumerate" => (k_here; refine enum_here ?_)
  k_with "call builtin:bytes.strip" => (k_here; (refine strip_bar (by first | omega | (simp only [List.size_toArray, List.length_nil]; omega)) ?_); intro «c'✝» «t'✝» «k'✝» «hc'✝» «hz'✝»)
  k_with "call ref" => (k_here; (with_reducible show wpAny _ _ (call (Value.ref 140) [Value.bytes _ _]) _ _ _); k_dflt (refine' bare_specN ?qqB ?qqF ?qqX ?qqN ?qqT ?qqk ?qqd ?qqu ?qqz ?_; (case qqB => k_asm); (case qqF => k_asm); (case qqX => k_asm); (case qqN => k_asm); (case qqT => k_asm); (case qqk => first | exact rfl | assumption); (case qqd => ktr_room); (case qqu => ktr_units); (case qqz => first | omega | (simp only [List.size_toArray, List.length_nil]; omega))); intro «c'✝» «t'✝» «h'✝» «tk'✝» «hc'✝» «hz'✝» «F'✝» «N'✝»)
  k_with "subscriptTail" => (k_here; (with_reducible show wpAny _ _ (subscriptTail _ (Expr.Slice _ _ _ _) (Value.bytes _ _) (Value.ref _)) _ _ _); (with_reducible rename Fr _ _ _ _ => «F'✝»); (with_reducible rename News _ _ _ _ => «N'✝»); (refine cut_N (s := ⟨_, _, _, _, _⟩) «F'✝» «N'✝» (by constructor) (by constructor) (by omega) ?_); clear «F'✝» «N'✝»; intro «c'✝» «h'✝» «t'✝» «k'✝» «hc'✝» «hz'✝» «F'✝» «N'✝»; (try dsimp only))
  k_with "call builtin:list.append" => (k_here; (with_reducible show wpAny _ _ (call (Value.builtin _) [Value.ref _, _]) _ _ _); k_dflt (refine' append_K ?qqk1 ?qqk2 ?qqk3 ?_ ?qqz; (case qqk1 => k_asm); (case qqk2 => k_asm); (case qqk3 => k_upd); (case qqz => assumption); k_whole); intro «h'✝» «F'✝» «N'✝»; (try k_sweep))
  k_with "eval ListComp" => (k_here; refine comp_here ?_)
  trivial
theorem rules55 : True := by
  k_with "exec Assign cons ListComp" => (k_here; refine exec_here ?_)
  trivial
theorem rules56 : True := by
  k_with "call ref" => (k_here; (with_reducible show wpAny _ _ (call (Value.ref 80) [Value.bytes _ _]) _ _ _); k_dflt (refine' ulines_spec ?qqB ?qqF ?qqX ?qqN ?qqT ?qqk ?qqd ?qqu ?qqz ?_; (case qqB => k_asm); (case qqF => k_asm); (case qqX => k_asm); (case qqN => k_asm); (case qqT => k_asm); (case qqk => first | exact rfl | assumption); (case qqd => ktr_room); (case qqu => ktr_units); (case qqz => omega)); intro «D'✝» «vs'✝» «h'✝» «tk'✝» «hB'✝» «lt'✝» «F'✝» «N'✝»; (try k_lt «lt'✝»))
  trivial
set_option maxHeartbeats 8000000 in
theorem miss_spec {b : Array UInt8} {tb : Tok} (B : Below A₀ base outer h₀) (F : Fr h₀ L s.heap m) (X : (hd.heap_39 w.params).In h₀) (N : News h₀ L s.heap news) (T : Top hd.view_39 loose mean mg mb h₀) (hk : cs.kind = .function)
    (hdp : dp + 60 < recursionLimit) (hu : un + 600 < cLine) (hz : b.size ≤ 2000) (hn : (BB.splitBy (unmark b) #[10]).length ≤ 1000)
    (ret : ∀ D ys k tl h' tk, RowsIn tl ys (rowsAt pmissB 0 (BB.splitBy (unmark b) #[10])) → (∀ p ∈ news, p ∈ tl) → Fr h₀ L h' m → News h₀ L h' ((D, listOf ys.toArray k) :: tl) → Q (.ref D) { s with heap := h', toks := tk }) :
    wpAny (model PySem.Challenge.rw_nt0003_01.prog w) (ktrTop dp un gd cn cs L a ccd cl outer) (call (.ref 90) [.bytes b tb]) Q E s := by
  revert X; k_fill; intro X
  refine wpAny_call ?_
  k_dflt cell_enter
  k_steps
  have hsz := split_sz (unmark b) #[10]
  have hum := unmark_size b
  rename BB.BAre _ (BB.splitBy _ _) => hB
  have hBl := hB.length
  rename Fr _ _ _ _ => lF
  rename News _ _ _ _ => lN
  rename ∀ p ∈ news, _ => lt1
  obtain ⟨bs, hbs⟩ : ∃ bs, bs = BB.splitBy (unmark b) #[10] := ⟨_, rfl⟩
  rw [← hbs] at hB hsz hn ret hBl
  refine enum_loop "found" ["at", "line", "cut", "rest", "told", "further"] (fun i ys tl => RowsIn tl ys (rowsAt pmissB 0 (bs.take i))) (base := (_, listOf (valsOf hB).toArray 0) :: news) (k := 0) rfl lF lN ?hall (.head _) ?hoff rfl .nil ?turn ?done
  case hall =>
    intro p hp
    rcases List.mem_cons.mp hp with rfl | hp
    · exact .tail _ (.head _)
    · rcases List.mem_cons.mp hp with rfl | hp
      · exact .head _
      · exact .tail _ (.tail _ hp)
  case hoff =>
    intro p hp
    rcases List.mem_cons.mp hp with rfl | hp
    · k_ne
    · exact Nat.ne_of_lt (lt1 p hp)
  case turn =>
    rintro i v ys k tl m₁ T t I h tk oe oi hv hP hbase hoff hFI hT F1 N1
    obtain ⟨b1, t, rfl, hzi, hbi, htk⟩ := bare_at hB (by simpa using hv) hsz
    clear lF lN
    have hil : i < bs.length := (List.getElem?_eq_some_iff.mp hbi).1
    have hys := rows_size hP hn
    k_steps
    · rename Fr _ _ _ _ => F2
      rename News _ _ _ _ => N2
      refine EnumEnd.intro (ys := ys) (k := k) [] F2 N2 ?_ ?_ ?_ ?_ ?_ ?_ ?_ rfl ?_
      · k_mem
      · k_mem
      · k_mem
      · exact fun _ h => nomatch h
      · exact fun p hp => by repeat (first | exact hp | refine List.mem_cons_of_mem _ ?_)
      · exact fun _ h => nomatch h
      · show RowsIn tl ys (rowsAt pmissB 0 (bs.take (i + 1)))
        rw [rowsAt_none htk (by omega) (pmissB_none1 (by omega))]
        exact hP
      · intro z hz1 hz2
        have g0 : z ≠ ("rest" : Str) := fun e => by rw [e] at hz2; revert hz2; decide
        have g1 : z ≠ ("cut" : Str) := fun e => by rw [e] at hz2; revert hz2; decide
        have g2 : z ≠ ("line" : Str) := fun e => by rw [e] at hz2; revert hz2; decide
        have g3 : z ≠ ("at" : Str) := fun e => by rw [e] at hz2; revert hz2; decide
        show (if z = _ then _ else _) = _
        (try dsimp only)
        rw [if_neg g0, if_neg g1, if_neg g2, if_neg g3, if_neg hz1, hz2]
        rfl
    · have h0 : ¬ BB.findI b1 #[35] < 0 := by omega
      (unfold CompHere; k_dflt (refine' LCg.ListComp_U (F₀ := ?qqa) ?qqb ?qqc ?qqd ?qqe ?qqf ?_; (case qqa => k_asm); (case qqb => rfl); (case qqc => decide); (case qqd => rfl); (case qqe => decide); (case qqf => rfl)))
      k_steps
      rename BB.BAre _ (BB.splitBy _ _) => hB2
      k_dflt (refine' LCg.CompSrc.ledger ?ch ?cF ?cN ?cm ?cz ?_; (case cF => k_asm); (case cN => k_asm); (case cm => k_mem); (case ch => rfl); (case cz => exact split_line hB2 (by omega)))
      intro g
      refine compRest_ind (fun j zs nw => nw = _ ∧ BB.BAre zs (((bsOf hB2).take j).map barB)) ?_ ?_ _ 0 [] _ (Nat.zero_add _) ⟨rfl, .nil⟩
      · rintro j zs news' v I2 oI C oC D1 m₂ h2 tk2 E' hj ⟨e, hzs⟩ hv2 hC hx F1 N1 off ne
        obtain ⟨bj, tj, rfl, hzj, hbj, htj⟩ := bare_at hB2 hv2 (split_sz _ _)
        k_steps
        rename Fr _ _ _ _ => F2
        rename News _ _ _ _ => N2
        rename _ = barB _ => hbar
        exact LCg.CompEnd.intro F2 N2 news' (fun _ h => h) off (.inr ⟨_, by rw [e]; exact .head _, rfl, _, rfl⟩) ⟨e, by rw [htj, List.map_append]; rw [hbar]; exact BAre_append1 hzs _ _⟩
      · rintro zs news' ⟨rfl, hzs⟩
        k_steps
        rename Fr _ _ _ _ => F2
        rename News _ _ _ _ => N2
        refine EnumEnd.two (ys := ys) (k := k + 1) F2 N2 ?_ ?_ ?_ ?_ ?_ ?_ ?_ rfl ?_
        · k_mem
        · k_mem
        · k_mem
        · exact fun p hp => by repeat (first | exact hp | refine List.mem_cons_of_mem _ ?_)
        · refine ⟨?_, ?_, ?_⟩ <;> k_ne
        · refine ⟨?_, ?_, ?_⟩ <;> k_ne
        · show RowsIn _ _ (rowsAt pmissB 0 (bs.take (i + 1)))
          rw [rowsAt_some htk (by omega) (pmissB_some2 h0 (by assumption) (by assumption) (by assumption) (by assumption) (by assumption) (by assumption) (by assumption) (by assumption))]
          rw [List.take_of_length_le (by rw [← hB2.length]; simp)] at hzs
          exact (hP.mono fun p hp => .tail _ (.tail _ hp)).append (.two (.head _) (.tail _ (.head _)) hzs)
        · intro z hz1 hz2
          have g0 : z ≠ ("told" : Str) := fun e => by rw [e] at hz2; revert hz2; decide
          have g1 : z ≠ ("further" : Str) := fun e => by rw [e] at hz2; revert hz2; decide
          have g2 : z ≠ ("told" : Str) := fun e => by rw [e] at hz2; revert hz2; decide
          have g3 : z ≠ ("rest" : Str) := fun e => by rw [e] at hz2; revert hz2; decide
          have g4 : z ≠ ("cut" : Str) := fun e => by rw [e] at hz2; revert hz2; decide
          have g5 : z ≠ ("line" : Str) := fun e => by rw [e] at hz2; revert hz2; decide
          have g6 : z ≠ ("at" : Str) := fun e => by rw [e] at hz2; revert hz2; decide
          show (if z = _ then _ else _) = _
          (try dsimp only)
          rw [if_neg g0, if_neg g1, if_neg g2, if_neg g3, if_neg g4, if_neg g5, if_neg g6, if_neg hz1, hz2]
          rfl
    · have h0 : ¬ BB.findI b1 #[35] < 0 := by omega
      (unfold CompHere; k_dflt (refine' LCg.ListComp_U (F₀ := ?qqa) ?qqb ?qqc ?qqd ?qqe ?qqf ?_; (case qqa => k_asm); (case qqb => rfl); (case qqc => decide); (case qqd => rfl); (case qqe => decide); (case qqf => rfl)))
      k_steps
      rename BB.BAre _ (BB.splitBy _ _) => hB2
      k_dflt (refine' LCg.CompSrc.ledger ?ch ?cF ?cN ?cm ?cz ?_; (case cF => k_asm); (case cN => k_asm); (case cm => k_mem); (case ch => rfl); (case cz => exact split_line hB2 (by omega)))
      intro g
      refine compRest_ind (fun j zs nw => nw = _ ∧ BB.BAre zs (((bsOf hB2).take j).map barB)) ?_ ?_ _ 0 [] _ (Nat.zero_add _) ⟨rfl, .nil⟩
      · rintro j zs news' v I2 oI C oC D1 m₂ h2 tk2 E' hj ⟨e, hzs⟩ hv2 hC hx F1 N1 off ne
        obtain ⟨bj, tj, rfl, hzj, hbj, htj⟩ := bare_at hB2 hv2 (split_sz _ _)
        k_steps
        rename Fr _ _ _ _ => F2
        rename News _ _ _ _ => N2
        rename _ = barB _ => hbar
        exact LCg.CompEnd.intro F2 N2 news' (fun _ h => h) off (.inr ⟨_, by rw [e]; exact .head _, rfl, _, rfl⟩) ⟨e, by rw [htj, List.map_append]; rw [hbar]; exact BAre_append1 hzs _ _⟩
      · rintro zs news' ⟨rfl, hzs⟩
        k_steps
        rename Fr _ _ _ _ => F2
        rename News _ _ _ _ => N2
        refine EnumEnd.two (ys := ys) (k := k + 1) F2 N2 ?_ ?_ ?_ ?_ ?_ ?_ ?_ rfl ?_
        · k_mem
        · k_mem
        · k_mem
        · exact fun p hp => by repeat (first | exact hp | refine List.mem_cons_of_mem _ ?_)
        · refine ⟨?_, ?_, ?_⟩ <;> k_ne
        · refine ⟨?_, ?_, ?_⟩ <;> k_ne
        · show RowsIn _ _ (rowsAt pmissB 0 (bs.take (i + 1)))
          rw [rowsAt_some htk (by omega) (pmissB_some3 h0 (by assumption) (by assumption) (by assumption) (by assumption) (by assumption) (by assumption) (by assumption) (by assumption) (by assumption))]
          rw [List.take_of_length_le (by rw [← hB2.length]; simp)] at hzs
          exact (hP.mono fun p hp => .tail _ (.tail _ hp)).append (.two (.head _) (.tail _ (.head _)) hzs)
        · intro z hz1 hz2
          have g0 : z ≠ ("told" : Str) := fun e => by rw [e] at hz2; revert hz2; decide
          have g1 : z ≠ ("further" : Str) := fun e => by rw [e] at hz2; revert hz2; decide
          have g2 : z ≠ ("told" : Str) := fun e => by rw [e] at hz2; revert hz2; decide
          have g3 : z ≠ ("rest" : Str) := fun e => by rw [e] at hz2; revert hz2; decide
          have g4 : z ≠ ("cut" : Str) := fun e => by rw [e] at hz2; revert hz2; decide
          have g5 : z ≠ ("line" : Str) := fun e => by rw [e] at hz2; revert hz2; decide
          have g6 : z ≠ ("at" : Str) := fun e => by rw [e] at hz2; revert hz2; decide
          show (if z = _ then _ else _) = _
          (try dsimp only)
          rw [if_neg g0, if_neg g1, if_neg g2, if_neg g3, if_neg g4, if_neg g5, if_neg g6, if_neg hz1, hz2]
          rfl
    · rename Fr _ _ _ _ => F2
      rename News _ _ _ _ => N2
      have h0 : ¬ BB.findI b1 #[35] < 0 := by omega
      refine EnumEnd.intro (ys := ys) (k := k) [] F2 N2 ?_ ?_ ?_ ?_ ?_ ?_ ?_ rfl ?_
      · k_mem
      · k_mem
      · k_mem
      · exact fun _ h => nomatch h
      · exact fun p hp => by repeat (first | exact hp | refine List.mem_cons_of_mem _ ?_)
      · exact fun _ h => nomatch h
      · show RowsIn tl ys (rowsAt pmissB 0 (bs.take (i + 1)))
        rw [rowsAt_none htk (by omega) (pmissB_none32 h0 (by assumption) (by assumption) (by assumption))]
        exact hP
      · intro z hz1 hz2
        have g0 : z ≠ ("rest" : Str) := fun e => by rw [e] at hz2; revert hz2; decide
        have g1 : z ≠ ("cut" : Str) := fun e => by rw [e] at hz2; revert hz2; decide
        have g2 : z ≠ ("line" : Str) := fun e => by rw [e] at hz2; revert hz2; decide
        have g3 : z ≠ ("at" : Str) := fun e => by rw [e] at hz2; revert hz2; decide
        show (if z = _ then _ else _) = _
        (try dsimp only)
        rw [if_neg g0, if_neg g1, if_neg g2, if_neg g3, if_neg hz1, hz2]
        rfl
    · rename Fr _ _ _ _ => F2
      rename News _ _ _ _ => N2
      have h0 : ¬ BB.findI b1 #[35] < 0 := by omega
      refine EnumEnd.intro (ys := ys) (k := k) [] F2 N2 ?_ ?_ ?_ ?_ ?_ ?_ ?_ rfl ?_
      · k_mem
      · k_mem
      · k_mem
      · exact fun _ h => nomatch h
      · exact fun p hp => by repeat (first | exact hp | refine List.mem_cons_of_mem _ ?_)
      · exact fun _ h => nomatch h
      · show RowsIn tl ys (rowsAt pmissB 0 (bs.take (i + 1)))
        rw [rowsAt_none htk (by omega) (pmissB_none22 h0 (by assumption) (by assumption) (by assumption))]
        exact hP
      · intro z hz1 hz2
        have g0 : z ≠ ("rest" : Str) := fun e => by rw [e] at hz2; revert hz2; decide
        have g1 : z ≠ ("cut" : Str) := fun e => by rw [e] at hz2; revert hz2; decide
        have g2 : z ≠ ("line" : Str) := fun e => by rw [e] at hz2; revert hz2; decide
        have g3 : z ≠ ("at" : Str) := fun e => by rw [e] at hz2; revert hz2; decide
        show (if z = _ then _ else _) = _
        (try dsimp only)
        rw [if_neg g0, if_neg g1, if_neg g2, if_neg g3, if_neg hz1, hz2]
        rfl
  case done =>
    rintro ys k tl m₁ h tk hP hbase F1 N1
    k_steps
    rename_i kF kN _ _
    rw [hBl, List.take_length] at hP
    exact ret _ _ _ _ _ _ hP (fun p hp => hbase p (.tail _ hp)) kF kN
end
end Mine
namespace Mine
theorem rules58 : True := by
  w_top off
  k_with_none
  k_with "execs cons" => (k_here; (try k_gentoks); (with_reducible refine execs_hide ?_); intro «Q✝» «k✝»; try dsimp only)
  trivial
/-! two lists of equal rows: `!=` says False -/
section
open SeqAt
variable {A : Around} {s : Shared}
theorem eqAt_bytes (b : Array UInt8) (t u : Tok) : EqAt A s (.bytes b t) (.bytes b u) true := fun prog w E Q h => by
  unfold eqBool
  refine wpAny_holding ?_
  refine wpAny_ite_split (fun _ => ?_) (fun _ => ?_)
  · exact wpAny_bind (wpAny_rule (wpAny_pure h))
  · refine wpAny_bind ?_
    show wpAny _ A (compareOp .Eq _ _) _ _ _
    exact eq_bytes (wpAny_truthy_bool (by simpa using h))
theorem eqAt_int (a : Int) (t u : Tok) : EqAt A s (.int a t) (.int a u) true := by
  have z := EqAt.int_int (A := A) (s := s) a t a u
  rwa [beq_self_eq_true] at z
theorem isList_mem {h₀ h : Heap} {L : Addr} {news : List (Addr × Obj)} {D : Addr} {vs : Array Value} {k : Nat} (N : News h₀ L h news) (hm : (D, listOf vs k) ∈ news) : h.IsList D vs := ⟨_, (N _ hm).1, rfl, k, rfl⟩
theorem isTup_mem {h₀ h : Heap} {L : Addr} {news : List (Addr × Obj)} {D : Addr} {vs : Array Value} (N : News h₀ L h news) (hm : (D, tupObj vs) ∈ news) : h.IsTuple D vs := ⟨_, (N _ hm).1, rfl, 0, rfl⟩
theorem range_all (n : Nat) : (List.range n).all (fun _ => true) = true := List.all_eq_true.mpr fun _ _ => rfl
theorem eqAt_list {F G : Addr} {vs us : List Value} {fs : List (Array UInt8)} (hl : s.heap.IsList F vs.toArray) (hb : s.heap.IsList G us.toArray) (h1 : BB.BAre vs fs) (h2 : BB.BAre us fs) (hu : A.units < cLine) : EqAt A s (.ref F) (.ref G) true := by
  by_cases e : F = G
  · subst e; exact .same _
  · have z := RcAt.lists (e := fun _ => true) hl hb (by simp [h1.length, h2.length]) hu (fun j a b => by
      rw [List.size_toArray] at a b
      have hj : j < fs.length := h1.length ▸ a
      obtain ⟨t, ht⟩ := h1.get j hj
      obtain ⟨u, hu'⟩ := h2.get j hj
      have e1 : vs.toArray[j]'(by simpa using a) = .bytes fs[j] t := by
        rw [List.getElem_toArray]; rw [List.getElem?_eq_getElem a] at ht; exact Option.some.inj ht
      have e2 : us.toArray[j]'(by simpa using b) = .bytes fs[j] u := by
        rw [List.getElem_toArray]; rw [List.getElem?_eq_getElem b] at hu'; exact Option.some.inj hu'
      rw [e1, e2]
      exact eqAt_bytes _ _ _)
    rw [range_all] at z
    exact .of_refs e z
theorem eqAt_tup {T U : Addr} {vs us : Array Value} (hl : s.heap.IsTuple T vs) (hb : s.heap.IsTuple U us) (hz : vs.size = us.size) (hu : A.units < cLine) (he : ∀ j (h1 : j < vs.size) (h2 : j < us.size), EqAt A.in1 s vs[j] us[j] true) : EqAt A s (.ref T) (.ref U) true := by
  by_cases e : T = U
  · subst e; exact .same _
  · have z := RcAt.tuples (e := fun _ => true) hl hb hu he
    rw [range_all, hz, beq_self_eq_true] at z
    exact .of_refs e z
theorem ne_tup {prog : Program} {w : World} {E : Value → Shared → Prop} {Q : Value → Shared → Prop} {T U : Addr} {vs us : Array Value} (hl : s.heap.IsTuple T vs) (hb : s.heap.IsTuple U us) (hz : vs.size = us.size) (hu : A.units < cLine) (he : ∀ j (h1 : j < vs.size) (h2 : j < us.size), EqAt A.in1 s vs[j] us[j] true)
    (h : Q (.bool false) s) : wpAny (model prog w) A (compareOp .NotEq (.ref T) (.ref U)) Q E s := by
  have z := RcNeAt.tuples (e := fun _ => true) hl hb hu he
  rw [range_all, hz, beq_self_eq_true] at z
  exact z prog w E Q h
theorem eqAt_row {h₀ : Heap} {L : Addr} {n1 n2 : List (Addr × Obj)} {v u : Value} {r : Row} (N1 : News h₀ L s.heap n1) (N2 : News h₀ L s.heap n2) (h1 : RowIn n1 v r) (h2 : RowIn n2 u r) (hu : A.units + 1 < cLine) : EqAt A s v u true := by
  cases h1 with
  | two a1 a2 a3 =>
    cases h2 with
    | two b1 b2 b3 =>
      refine eqAt_tup (isTup_mem N1 a1) (isTup_mem N2 b1) rfl (by omega) fun j c1 c2 => ?_
      match j, c1, c2 with
      | 0, _, _ => exact eqAt_int _ _ _
      | 1, _, _ => exact eqAt_list (isList_mem N1 a2) (isList_mem N2 b2) a3 b3 (by simpa using hu)
      | j + 2, c1, _ => exact absurd c1 (by simp)
  | three a1 a2 a3 =>
    cases h2 with
    | three b1 b2 b3 =>
      refine eqAt_tup (isTup_mem N1 a1) (isTup_mem N2 b1) rfl (by omega) fun j c1 c2 => ?_
      match j, c1, c2 with
      | 0, _, _ => exact eqAt_int _ _ _
      | 1, _, _ => exact eqAt_list (isList_mem N1 a2) (isList_mem N2 b2) a3 b3 (by simpa using hu)
      | 2, _, _ => exact eqAt_bytes _ _ _
      | j + 3, c1, _ => exact absurd c1 (by simp)
theorem RowsIn.get {news : List (Addr × Obj)} {vs : List Value} {rs : List Row} (h : RowsIn news vs rs) : ∀ (i : Nat) (hi : i < vs.length) (hr : i < rs.length), RowIn news vs[i] rs[i] := by
  induction h with
  | nil => intro i hi; exact absurd hi (Nat.not_lt_zero _)
  | cons h _ ih =>
    intro i hi hr
    match i with
    | 0 => exact h
    | i + 1 => exact ih i (by simpa using hi) (by simpa using hr)
theorem ne_rows {prog : Program} {w : World} {E : Value → Shared → Prop} {Q : Value → Shared → Prop} {h₀ : Heap} {L : Addr} {n1 n2 : List (Addr × Obj)} {D G : Addr} {vs us : List Value} {k l : Nat} {rs : List Row} (N1 : News h₀ L s.heap n1) (N2 : News h₀ L s.heap n2)
    (hD : (D, listOf vs.toArray k) ∈ n1) (hG : (G, listOf us.toArray l) ∈ n2) (h1 : RowsIn n1 vs rs) (h2 : RowsIn n2 us rs) (hu : A.units + 2 < cLine)
    (h : Q (.bool false) s) : wpAny (model prog w) A (compareOp .NotEq (.ref D) (.ref G)) Q E s := by
  have z := RcNeAt.lists (A := A) (e := fun _ => true) (isList_mem N1 hD) (isList_mem N2 hG) (by simp [h1.length, h2.length]) (by omega) (fun j a b => by
      rw [List.size_toArray] at a b
      rw [List.getElem_toArray, List.getElem_toArray]
      exact eqAt_row N1 N2 (h1.get j a (h1.length ▸ a)) (h2.get j b (h1.length ▸ a)) (by simpa using hu))
  rw [range_all] at z
  exact z prog w E Q h
end
end Mine
namespace Mine
theorem rules59 : True := by
  w_top off
  k_with_none
  k_with "execs cons" => (k_here; (try k_gentoks); (with_reducible refine execs_hide ?_); intro «Q✝» «k✝»; try dsimp only)
  trivial
/-! splitting what was joined -/
open Builtin in
section
def splitF (x : UInt8) : List UInt8 → List UInt8 → List (List UInt8)
  | seg, [] => [seg]
  | seg, c :: r => if c = x then seg :: splitF x [] r else splitF x (seg ++ [c]) r
theorem ext_one (b : Array UInt8) (x : UInt8) (i : Nat) : (b.extract i (i + 1) == #[x]) = (b.toList[i]? == some x) := by
  have e : b.extract i (i + 1) = ((b.toList.drop i).take 1).toArray := by
    apply Array.ext'
    simp [Array.toList_extract, List.extract]
  rw [e]
  rcases h : b.toList.drop i with _ | ⟨c, r⟩
  · have : b.toList.length ≤ i := by simpa using h
    rw [List.getElem?_eq_none this]
    rfl
  · have hi : i < b.toList.length := by
      rcases Nat.lt_or_ge i b.toList.length with z | z
      · exact z
      · rw [List.drop_eq_nil_of_le z] at h; cases h
    have : b.toList[i]? = some c := by
      rw [List.drop_eq_getElem_cons hi] at h
      rw [List.getElem?_eq_getElem hi]
      exact congrArg some (List.cons.inj h).1
    rw [this]
    show (#[c] == #[x]) = (some c == some x)
    by_cases hc : c = x
    · subst hc; simp
    · simp
theorem range0 (n : Nat) (c : Array UInt8) (hc : c.size = 1) : (List.range (n + 1 - (0 + c.size))).map (· + 0) = List.range n := by
  rw [hc]; simp
theorem occ_one (b : Array UInt8) (x : UInt8) : Bytes.occurrences b #[x] 0 b.size = (List.range b.size).filter fun i => b.toList[i]? == some x := by
  unfold Bytes.occurrences
  have key : ∀ (m k : Nat) (st : List Nat × Nat), st.2 ≤ k → ((List.range' k m).foldl (fun (acc : List Nat × Nat) (i : Nat) => if (decide (i ≥ acc.2) && b.extract i (i + (#[x] : Array UInt8).size) == #[x]) = true then (i :: acc.1, i + (#[x] : Array UInt8).size) else acc) st).1 = ((List.range' k m).filter fun i => b.toList[i]? == some x).reverse ++ st.1 := by
    intro m
    induction m with
    | zero => intro k st _; rfl
    | succ m ih =>
      intro k st hs
      rw [List.range'_succ, List.foldl_cons, List.filter_cons]
      have e1 : (#[x] : Array UInt8).size = 1 := rfl
      rw [e1, ext_one]
      have hd : decide (k ≥ st.2) = true := decide_eq_true hs
      rw [hd, Bool.true_and]
      rw [e1] at ih
      by_cases h : (b.toList[k]? == some x) = true
      · rw [if_pos h, if_pos h, ih _ _ (Nat.le_refl _)]
        simp
      · rw [if_neg h, if_neg h, ih _ _ (Nat.le_succ_of_le hs)]
  show (((List.range (b.size + 1 - (0 + (#[x] : Array UInt8).size))).map (· + 0)).foldl _ ([], 0)).1.reverse = _
  rw [range0 _ _ rfl, List.range_eq_range', key _ _ _ (Nat.le_refl _)]
  simp
theorem split_one (b : Array UInt8) (x : UInt8) : BB.splitBy b #[x] = (splitF x [] b.toList).map List.toArray := by
  unfold BB.splitBy Bytes.between
  rw [occ_one]
  have key : ∀ (m k : Nat) (parts : Array (Array UInt8)) (last : Nat), last ≤ k → k + m = b.size →
      ((((List.range' k m).filter fun i => b.toList[i]? == some x).foldl (fun (y : Array (Array UInt8) × Nat) q => (y.1.push (b.extract y.2 q), q + 1)) (parts, last)).1.push (b.extract (((List.range' k m).filter fun i => b.toList[i]? == some x).foldl (fun (y : Array (Array UInt8) × Nat) q => (y.1.push (b.extract y.2 q), q + 1)) (parts, last)).2 b.size)).toList
        = parts.toList ++ (splitF x ((b.toList.drop last).take (k - last)) (b.toList.drop k)).map List.toArray := by
    intro m
    induction m with
    | zero =>
      intro k parts last hl hk
      have e : b.toList.drop k = [] := List.drop_eq_nil_of_le (by simp; omega)
      rw [e]
      have e2 : b.extract last b.size = ((b.toList.drop last).take (k - last)).toArray := by
        apply Array.ext'
        have : k = b.size := by omega
        subst this
        simp [Array.toList_extract, List.extract]
      show (parts.push (b.extract last b.size)).toList = _
      rw [Array.toList_push, e2]
      rfl
    | succ m ih =>
      intro k parts last hl hk
      have hi : k < b.toList.length := by simp; omega
      rw [List.range'_succ, List.filter_cons, List.drop_eq_getElem_cons hi]
      by_cases h : b.toList[k] = x
      · have h1 : (b.toList[k]? == some x) = true := by rw [List.getElem?_eq_getElem hi, h]; simp
        rw [if_pos h1, List.foldl_cons]
        rw [ih (k + 1) _ _ (Nat.le_refl _) (by omega)]
        show _ = parts.toList ++ (if b.toList[k] = x then _ else _ : List (List UInt8)).map List.toArray
        rw [if_pos h]
        have e2 : b.extract last k = ((b.toList.drop last).take (k - last)).toArray := by
          apply Array.ext'
          simp [Array.toList_extract, List.extract]
        rw [Array.toList_push, e2]
        simp
      · have h1 : ¬ (b.toList[k]? == some x) = true := by rw [List.getElem?_eq_getElem hi]; simpa using h
        rw [if_neg h1]
        rw [ih (k + 1) _ _ (by omega) (by omega)]
        show _ = parts.toList ++ (if b.toList[k] = x then _ else splitF x (_ ++ [b.toList[k]]) _ : List (List UInt8)).map List.toArray
        rw [if_neg h]
        have e3 : (b.toList.drop last).take (k + 1 - last) = (b.toList.drop last).take (k - last) ++ [b.toList[k]] := by
          have e4 : k + 1 - last = (k - last) + 1 := by omega
          have e6 : last + (k - last) = k := by omega
          rw [e4, List.take_add_one, List.getElem?_drop, e6, List.getElem?_eq_getElem hi]
          rfl
        rw [e3]
  have := key b.size 0 #[] 0 (Nat.le_refl _) (by omega)
  rw [List.range_eq_range']
  simpa using this
theorem splitF_pre (x : UInt8) : ∀ (y seg rest : List UInt8), (∀ c ∈ y, c ≠ x) → splitF x seg (y ++ rest) = splitF x (seg ++ y) rest
  | [], seg, rest, _ => by simp
  | c :: y, seg, rest, h => by
    rw [List.cons_append]
    show (if c = x then _ else splitF x (seg ++ [c]) (y ++ rest)) = _
    rw [if_neg (h c (List.mem_cons_self ..)), splitF_pre x y _ rest fun d hd => h d (List.mem_cons_of_mem _ hd)]
    simp
theorem join_list (b : Array UInt8) (r : List (Array UInt8)) (x : UInt8) : (BB.joinB #[x] (b :: r)).toList = b.toList ++ r.flatMap fun p => x :: p.toList := by
  unfold BB.joinB Bytes.joined
  have key : ∀ (r : List (Array UInt8)) (k : Nat) (acc : Array UInt8), 0 < k → ((r.zipIdx k).foldl (fun out (y : Array UInt8 × Nat) => (if y.2 > 0 then out ++ #[x] else out) ++ y.1) acc).toList = acc.toList ++ r.flatMap fun p => x :: p.toList := by
    intro r
    induction r with
    | nil => intro k acc _; simp
    | cons p r ih =>
      intro k acc hk
      rw [List.zipIdx_cons, List.foldl_cons, ih _ _ (Nat.succ_pos _), List.flatMap_cons]
      show ((if k > 0 then acc ++ #[x] else acc) ++ p).toList ++ _ = _
      rw [if_pos hk]
      simp
  show (((b :: r).zipIdx 0).foldl (fun out (y : Array UInt8 × Nat) => (if y.2 > 0 then out ++ #[x] else out) ++ y.1) #[]).toList = _
  rw [List.zipIdx_cons, List.foldl_cons, key _ _ _ (Nat.succ_pos _)]
  simp
theorem splitF_lines (x : UInt8) : ∀ (r : List (Array UInt8)) (seg tl : List UInt8), (∀ p ∈ r, ∀ c ∈ p.toList, c ≠ x) →
    ∃ l, splitF x seg ((r.flatMap fun p => x :: p.toList) ++ tl) = ((seg :: r.map Array.toList).dropLast) ++ splitF x l tl ∧ (seg :: r.map Array.toList) = (seg :: r.map Array.toList).dropLast ++ [l]
  | [], seg, tl, _ => ⟨seg, by simp, by simp⟩
  | p :: r, seg, tl, h => by
    obtain ⟨l, h1, h2⟩ := splitF_lines x r p.toList tl fun q hq => h q (List.mem_cons_of_mem _ hq)
    refine ⟨l, ?_, ?_⟩
    · rw [List.flatMap_cons, List.cons_append, List.cons_append, List.append_assoc]
      show (if x = x then seg :: splitF x [] _ else _) = _
      rw [if_pos rfl, splitF_pre x p.toList [] _ (h p (List.mem_cons_self ..)), List.nil_append, h1]
      simp
    · rw [List.map_cons, List.dropLast_cons_of_ne_nil (by simp), List.cons_append, ← h2]
theorem split_lines {b : Array UInt8} {r : List (Array UInt8)} (h : ∀ p ∈ b :: r, ∀ c ∈ p.toList, c ≠ 10) :
    BB.splitBy (BB.joinB #[10] (b :: r)) #[10] = b :: r ∧ BB.splitBy (BB.joinB #[10] (b :: r) ++ #[10]) #[10] = b :: r ++ [#[]] := by
  have hb := h b (List.mem_cons_self ..)
  have hr := fun p hp => h p (List.mem_cons_of_mem _ hp)
  have e : ((b.toList :: r.map Array.toList).map List.toArray) = b :: r := by
    simp only [List.map_cons, List.map_map]
    exact congrArg (b :: ·) ((List.map_congr_left fun p _ => rfl).trans (List.map_id r))
  constructor
  · rw [split_one, join_list, splitF_pre 10 b.toList [] _ hb, List.nil_append]
    obtain ⟨l, h1, h2⟩ := splitF_lines 10 r b.toList [] hr
    rw [List.append_nil] at h1
    rw [h1]
    show ((b.toList :: r.map Array.toList).dropLast ++ [l]).map List.toArray = _
    rw [← h2, e]
  · rw [split_one, Array.toList_append, join_list, List.append_assoc, splitF_pre 10 b.toList [] _ hb, List.nil_append]
    obtain ⟨l, h1, h2⟩ := splitF_lines 10 r b.toList [10] hr
    rw [h1]
    show ((b.toList :: r.map Array.toList).dropLast ++ [l, []]).map List.toArray = _
    have e5 : (b.toList :: r.map Array.toList).dropLast ++ [l, []] = (b.toList :: r.map Array.toList) ++ [[]] := by
      rw [h2]; simp
    rw [e5, List.map_append, e]
    rfl
theorem picked_take (b : Array UInt8) (n : Nat) : (KBy.picked b none (some (n : Int))).toList = b.toList.take n := by
  rw [KBc.picked_eq]
  show ((b.toList.drop 0).take (clipAt b.size (n : Int) - 0)) = _
  rw [clipAt_nat, List.drop_zero, Nat.sub_zero]
  rcases Nat.le_total n b.size with h | h
  · rw [Nat.min_eq_left h]
  · rw [Nat.min_eq_right h, List.take_of_length_le (by simp), List.take_of_length_le (by simpa using h)]
theorem picked_drop (b : Array UInt8) (n : Nat) : (KBy.picked b (some (n : Int)) none).toList = b.toList.drop n := by
  rw [KBc.picked_eq]
  show ((b.toList.drop (clipAt b.size (n : Int))).take (b.size - clipAt b.size (n : Int))) = _
  rw [clipAt_nat]
  rcases Nat.le_total n b.size with h | h
  · rw [Nat.min_eq_left h, List.take_of_length_le (by simp)]
  · rw [Nat.min_eq_right h, List.drop_eq_nil_of_le (by simp), List.drop_eq_nil_of_le (by simpa using h), List.take_nil]
theorem unmark_mark (y : Array UInt8) : unmark (markB ++ y) = y := by
  have hs : BB.startsB (markB ++ y) markB = true := by
    unfold BB.startsB
    rw [if_neg (by simp; omega)]
    have : (markB ++ y).extract 0 (0 + markB.size) = markB := by
      apply Array.ext'
      simp [List.extract, markB]
    rw [this]
    simp
  unfold unmark
  rw [if_pos hs]
  apply Array.ext'
  refine (picked_drop _ 3).trans ?_
  simp [markB]
theorem unmark_not {y : Array UInt8} (h : ∀ c ∈ y.toList, c ≠ 239) : unmark y = y := by
  refine if_neg fun hs => ?_
  unfold BB.startsB at hs
  split at hs
  · cases hs
  · have e := eq_of_beq hs
    have e1 : (239 : UInt8) ∈ (y.extract 0 (0 + markB.size)).toList := by rw [e]; decide
    rw [Array.toList_extract, List.extract] at e1
    exact h 239 (List.mem_of_mem_drop (List.mem_of_mem_take e1)) rfl
theorem joinB_mem {bs : List (Array UInt8)} {P : UInt8 → Prop} (h10 : P 10) (h : ∀ p ∈ bs, ∀ c ∈ p.toList, P c) : ∀ c ∈ (BB.joinB #[10] bs).toList, P c := by
  cases bs with
  | nil => intro c hc; cases hc
  | cons b r =>
    rw [join_list]
    intro c hc
    rcases List.mem_append.mp hc with hc | hc
    · exact h b (List.mem_cons_self ..) c hc
    · obtain ⟨p, hp, hc⟩ := List.mem_flatMap.mp hc
      rcases List.mem_cons.mp hc with rfl | hc
      · exact h10
      · exact h p (List.mem_cons_of_mem _ hp) c hc
theorem Good.ne {b : Array UInt8} (h : Good b) {x : UInt8} (hx : okb x = false) : ∀ c ∈ b.toList, c ≠ x := fun c hc e => by
  have := h.ok c hc
  rw [e, hx] at this; cases this
theorem lines_back {bs : List (Array UInt8)} (hn : bs ≠ []) (hg : ∀ b ∈ bs, Good b) {b1 b3 : Array UInt8} (h1 : b1 = #[] ∨ b1 = markB) (h3 : b3 = #[] ∨ b3 = #[10]) :
    BB.splitBy (unmark (b1 ++ BB.joinB #[10] bs ++ b3)) #[10] = bs ∨ BB.splitBy (unmark (b1 ++ BB.joinB #[10] bs ++ b3)) #[10] = bs ++ [#[]] := by
  cases bs with
  | nil => exact absurd rfl hn
  | cons b r =>
    obtain ⟨s1, s2⟩ := split_lines (b := b) (r := r) fun p hp => (hg p hp).ne rfl
    have hm : ∀ c ∈ (BB.joinB #[10] (b :: r)).toList, c ≠ 239 := joinB_mem (P := fun c => c ≠ 239) (by decide) fun p hp => (hg p hp).ne rfl
    have e : unmark (b1 ++ BB.joinB #[10] (b :: r) ++ b3) = BB.joinB #[10] (b :: r) ++ b3 := by
      rcases h1 with rfl | rfl
      · rw [Array.empty_append]
        refine unmark_not fun c hc => ?_
        rw [Array.toList_append] at hc
        rcases List.mem_append.mp hc with hc | hc
        · exact hm c hc
        · rcases h3 with rfl | rfl
          · cases hc
          · rw [List.mem_singleton.mp hc]; decide
      · rw [Array.append_assoc, unmark_mark]
    rw [e]
    rcases h3 with rfl | rfl
    · rw [Array.append_empty]; exact .inl s1
    · exact .inr s2
theorem rows_back {f : Array UInt8 → Option (List (Array UInt8) × Option (Array UInt8))} (hf : f #[] = none) {bs : List (Array UInt8)} (hn : bs ≠ []) (hg : ∀ b ∈ bs, Good b) {b1 b3 : Array UInt8} (h1 : b1 = #[] ∨ b1 = markB) (h3 : b3 = #[] ∨ b3 = #[10]) :
    rowsAt f 0 (BB.splitBy (unmark (b1 ++ BB.joinB #[10] bs ++ b3)) #[10]) = rowsAt f 0 bs := by
  rcases lines_back hn hg h1 h3 with e | e
  · rw [e]
  · rw [e, rowsAt_append]
    show _ ++ (match f #[] with | some (fs, rm) => _ | none => rowsAt f _ []) = _
    rw [hf]
    exact List.append_nil _
theorem rowB_nil : rowB #[] = none := by decide +kernel
theorem pmissB_nil : pmissB #[] = none := by decide +kernel
/-! the two readings of a missing line -/
theorem find_one (b : Array UInt8) (x : UInt8) : Bytes.find? b #[x] 0 b.size = (List.range b.size).find? fun i => b.toList[i]? == some x := by
  unfold Bytes.find?
  rw [range0 _ _ rfl]
  congr 1
  funext i
  exact ext_one b x i
theorem after_find {b : Array UInt8} {i : Nat} (h : Bytes.find? b #[35] 0 b.size = some i) : afterHash b.toList = some (b.toList.drop (i + 1)) := by
  rw [find_one, List.find?_range_eq_some] at h
  obtain ⟨h1, h2, h3⟩ := h
  have hi : i < b.toList.length := by simpa using h2
  have e : b.toList = b.toList.take i ++ b.toList[i] :: b.toList.drop (i + 1) := by
    rw [← List.drop_eq_getElem_cons hi, List.take_append_drop]
  have e35 : b.toList[i] = 35 := by
    rw [List.getElem?_eq_getElem hi] at h1
    simpa using h1
  rw [e35] at e
  conv => lhs; rw [e]
  rw [afterHash_append (fun c hc => ?_)]
  · rfl
  · obtain ⟨j, hj, rfl⟩ := List.getElem_of_mem hc
    have hj' : j < i := by simp at hj; omega
    have := h3 j hj'
    rw [List.getElem_take]
    intro e
    rw [List.getElem?_eq_getElem (by omega), e] at this
    simp at this
theorem cut_neg {b : Array UInt8} (h : (35 : UInt8) ∉ b.toList) : cutB b < 0 := by
  unfold cutB BB.findI
  rw [find_one]
  have : ((List.range b.size).find? fun i => b.toList[i]? == some 35) = none := by
    rw [List.find?_eq_none]
    intro i hi he
    have := eq_of_beq he
    exact h (List.mem_of_getElem? this)
  rw [this]
  decide
theorem strip_mem {c b : Array UInt8} {x : UInt8} (h : x ∈ (BB.stripBy c b).toList) : x ∈ b.toList := by
  unfold BB.stripBy at h
  have h1 := List.mem_reverse.mp h
  have h2 := (List.dropWhile_suffix _).subset h1
  have h3 := List.mem_reverse.mp h2
  exact (List.dropWhile_suffix _).subset h3
theorem picked_mem {b : Array UInt8} {lo hi : Option Int} {x : UInt8} (h : x ∈ (KBy.picked b lo hi).toList) : x ∈ b.toList := by
  rw [KBc.picked_eq] at h
  exact List.mem_of_mem_drop (List.mem_of_mem_take h)
theorem starts_pick {r : Array UInt8} : BB.startsB r missB = true ↔ (KBy.picked r none (some 9)).toList = missB.toList := by
  have e : (KBy.picked r none (some 9)).toList = r.toList.take 9 := picked_take r 9
  rw [e]
  have hm : missB.size = 9 := rfl
  unfold BB.startsB
  by_cases h : (r.size : Int) - 0 < (missB.size : Int)
  · rw [if_pos h]
    refine ⟨nofun, fun he => ?_⟩
    have := congrArg List.length he
    rw [List.length_take] at this
    have : missB.toList.length = 9 := rfl
    rw [hm] at h
    simp at *
    omega
  · rw [if_neg h, beq_iff_eq]
    have e2 : (r.extract 0 (0 + missB.size)).toList = r.toList.take 9 := by
      rw [Array.toList_extract, List.extract, hm]; simp
    rw [← e2]
    exact ⟨fun z => congrArg Array.toList z, fun z => Array.ext' z⟩
theorem miss_same {b : Array UInt8} (h : Good b) : pmissB b = lmissB b := by
  unfold pmissB lmissB
  by_cases h0 : 0 ≤ cutB b
  · by_cases h1 : (barB (preB b)).toList = ([] : List UInt8)
    · by_cases h2 : BB.startsB (barB (postB b)) missB = true
      · rw [if_pos ⟨h0, h1, h2⟩, if_pos ⟨h0, h1, starts_pick.mp h2⟩]
        have hc : cutB (KBy.picked (barB (postB b)) (some 9) none) < 0 := by
          refine cut_neg fun hm => ?_
          have h35 := strip_mem (picked_mem hm)
          unfold cutB BB.findI at h0
          cases hf : Bytes.find? b #[35] 0 b.size with
          | none => rw [hf] at h0; exact absurd h0 (by decide)
          | some i =>
            have ha := after_find hf
            have hp : (postB b).toList = b.toList.drop (i + 1) := by
              have hci : cutB b = (i : Int) := by unfold cutB BB.findI; rw [hf]
              unfold postB
              rw [hci, if_neg (by omega)]
              exact picked_drop b (i + 1)
            have hok := h.miss
            unfold missOk at hok
            rw [ha] at hok
            simp only [Bool.or_eq_true, Bool.not_eq_true'] at hok
            rcases hok with hok | hok
            · rw [hp] at h35
              have : (b.toList.drop (i + 1)).contains 35 = true := List.contains_iff_mem.mpr h35
              rw [hok] at this; cases this
            · have hs := starts_pick.mp h2
              have e0 : (b.toList.drop (i + 1)).toArray = postB b := by rw [← hp]
              rw [e0] at hok
              have hpre : missB.toList <+: (BB.stripBy blankSet (postB b)).toList := by
                rw [← hs, KBc.picked_eq]
                show ((_ : List UInt8).take _) <+: _
                exact List.take_prefix _ _
              rw [List.isPrefixOf_iff_prefix.mpr hpre] at hok; cases hok
        have : preB (KBy.picked (barB (postB b)) (some 9) none) = KBy.picked (barB (postB b)) (some 9) none := if_pos hc
        rw [this]
      · rw [if_neg fun z => h2 z.2.2, if_neg fun z => h2 (starts_pick.mpr z.2.2)]
    · rw [if_neg fun z => h1 z.2.1, if_neg fun z => h1 z.2.1]
  · rw [if_neg fun z => h0 z.1, if_neg fun z => h0 z.1]
theorem rowsAt_same {f g : Array UInt8 → Option (List (Array UInt8) × Option (Array UInt8))} : ∀ (bs : List (Array UInt8)) (i : Nat), (∀ b ∈ bs, f b = g b) → rowsAt f i bs = rowsAt g i bs
  | [], _, _ => rfl
  | b :: r, i, h => by
    have ih := rowsAt_same r (i + 1) fun p hp => h p (List.mem_cons_of_mem _ hp)
    show (match f b with | some (fs, rm) => ((i : Int) + 1, fs, rm) :: rowsAt f (i + 1) r | none => rowsAt f (i + 1) r) = (match g b with | some (fs, rm) => ((i : Int) + 1, fs, rm) :: rowsAt g (i + 1) r | none => rowsAt g (i + 1) r)
    rw [h b (List.mem_cons_self ..), ih]
end
end Mine
namespace Mine
theorem rules60 : True := by
  w_top off
  k_with_none
  k_with "execs cons" => (k_here; (try k_gentoks); (with_reducible refine execs_hide ?_); intro «Q✝» «k✝»; try dsimp only)
  trivial
/-! a list comprehension whose target is three names, over a list in the ledger -/
section
open PyProof.Rows.LCg
variable {prog : Program} {w : World} {A : Around} {E : Value → Shared → Prop} {s : Shared} {h₀ : Heap} {L : Addr} {m : Str → Option Value} {env : Env}
/-- what one turn must show: the item is a tuple of three, and the element's value goes on with the invariant -/
def Turn3 (prog : Program) (w : World) (A : Around) (h₀ : Heap) (L : Addr) (m : Str → Option Value) (env : Env) (elt : Expr) (x₁ x₂ x₃ : Str) (scope : Scope) (cl : List (Str × Addr)) (s : Shared) (its : Array Value) (Inv : Nat → List Value → List (Addr × Obj) → Prop) : Prop :=
  ∀ i ys nw v, Inv i ys nw → its[i]? = some v → ∃ (t : Addr) (v₁ v₂ v₃ : Value), v = .ref t ∧ (t, tupObj #[v₁, v₂, v₃]) ∈ nw ∧
    ∀ I oI C oC D m₂ h tk (E' : Value → Shared → Prop), NsObj oC m₂ → m₂ x₁ = some v₁ → m₂ x₂ = some v₂ → m₂ x₃ = some v₃ → Fr h₀ L h m → News h₀ L h ((I, oI) :: (C, oC) :: (D, lst ys) :: nw) → Off3 I C D nw → ((@Ne Nat I C) ∧ (@Ne Nat I D) ∧ (@Ne Nat C D)) →
      wpAny (model prog w) A (eval elt (compEnvC scope cl C env)) (CompEnd h₀ L m { s with heap := h, toks := tk } I oI C oC D (lst ys) (fun _ => True) (fun y nw' => Inv (i + 1) (ys ++ [y]) nw')) E' { s with heap := h, toks := tk }
/-- the state between two turns -/
structure Mid (h₀ : Heap) (L : Addr) (m : Str → Option Value) (s : Shared) (its : Array Value) (ax I C D : Addr) (Inv : Nat → List Value → List (Addr × Obj) → Prop) (i : Nat) (s' : Shared) (ys : List Value) (nw : List (Addr × Obj)) : Prop where
  shape : ∃ h tk, s' = { s with heap := h, toks := tk }
  it : s'.heap.IsListIter I ax i
  src : s'.heap.IsList ax its
  fr : Fr h₀ L s'.heap m
  ns : ∃ m', s'.heap.Ns C m'
  news : News h₀ L s'.heap ((D, lst ys) :: nw)
  off : Off3 I C D nw
  len : ys.length = i
  inv : Inv i ys nw
theorem loop3 {elt iter : Expr} {x₁ x₂ x₃ : Str} {px₁ px₂ px₃ tp : Pos} {tk : Nat} {scope : Scope} {cl : List (Str × Addr)} {pos : Pos} {its : Array Value} {ax I C D : Addr} {Inv : Nat → List Value → List (Addr × Obj) → Prop} {R : Result → Shared → Prop}
    (hh : A.handled = none) (hsz : its.size ≤ sizeLine) (hkind : scope.kind = .function) (hx₁ : scope.names.lookup x₁ = some .local) (hx₂ : scope.names.lookup x₂ = some .local) (hx₃ : scope.names.lookup x₃ = some .local) (h12 : x₁ ≠ x₂) (h13 : x₁ ≠ x₃) (h23 : x₂ ≠ x₃)
    (hIL : L ≠ I) (hCL : C ≠ L) (hDL : D ≠ L) (haI : ax ≠ I) (hCI : I ≠ C) (hDI : I ≠ D) (hCD : C ≠ D) (hI₀ : h₀.get? I = none) (hC₀ : h₀.get? C = none) (hD₀ : h₀.get? D = none)
    (hsrc : ∀ i ys nw h, Inv i ys nw → (∀ b o, h₀.get? b = some o → h.get? b = some o) → News h₀ L h nw → h.IsList ax its)
    (turn : Turn3 prog w A h₀ L m env elt x₁ x₂ x₃ scope cl s its Inv)
    (fin : ∀ s' ys nw m', (∃ h tk, s' = { s with heap := h, toks := tk }) → Fr h₀ L s'.heap m → News h₀ L s'.heap ((D, lst ys) :: nw) → Off3 I C D nw → s'.heap.Ns C m' → Inv its.size ys nw → R (.ok .next) s')
    {nw : List (Addr × Obj)} {s' : Shared} (M0 : Mid h₀ L m s its ax I C D Inv 0 s' [] nw) :
    codeAny (model prog w) A (.compLoop (.ListComp elt [⟨.Tuple [.Name x₁ px₁, .Name x₂ px₂, .Name x₃ px₃] tk tp, iter, [], 0⟩] scope pos) 0 (.ref I) (.ref D) (compEnvC scope cl C env)) R s' := by
  refine LCp.codeAny_compLoop_pair (fun k s' => ∃ i ys nw, i ≤ its.size ∧ k = its.size + 1 - i ∧ Mid h₀ L m s its ax I C D Inv i s' ys nw) ?_ (its.size + 1) ⟨0, [], nw, Nat.zero_le _, rfl, M0⟩
  rintro k s' ⟨i, ys, nw, hi, rfl, ⟨⟨h, tk', rfl⟩, hit, hl, F, ⟨m', hn⟩, N, off, hlen, hInv⟩⟩
  have off3 := off.mem
  rcases Nat.lt_or_eq_of_le hi with hlt | rfl
  · obtain ⟨t, v₁, v₂, v₃, hv, hmt, T⟩ := turn i ys nw its[i] hInv (by simp [hlt])
    refine wpAny_pyNext_list_item hit hl (x := its[i]) (by simp [hlt]) fun h₁ hit₁ hs₁ => ?_
    have up1 : ∀ b o, b ≠ I → h.get? b = some o → h₁.get? b = some o := fun b o hb e => hs₁.extBut b o hb e
    have N₁ : News h₀ L h₁ ((D, lst ys) :: nw) := news_but N (fun b o hb e => up1 b o (by simpa using hb) e) fun p hp => by
      rcases List.mem_cons.mp hp with rfl | hp
      · exact Ne.symm hDI
      · exact (off3 p hp).1
    have F₁ : Fr h₀ L h₁ m := fr_but F (fun b o hb e => up1 b o (by simpa using hb) e) hIL hI₀
    have hT : IsTup h₁ t #[v₁, v₂, v₃] := ⟨_, (N₁ _ (List.mem_cons_of_mem _ hmt)).1, rfl, 0, rfl⟩
    show wpAny _ A (letOwnedTupleGo _ (.ref I) its[i]) _ _ _
    rw [hv]
    refine wpAny_letOwnedTupleGo_listiter hit₁ ?_
    refine assign_Tuple_tuple hh hT rfl rfl fun h₂ he => ?_
    have up2 : ∀ b o, h₁.get? b = some o → h₂.get? b = some o := fun b o e => he b o (Nat.ne_of_lt (Heap.lt_size e)) e
    have nsC : h₂.Ns C m' := (hn.at' fun o e => up1 _ o (Ne.symm hCI) e).at' fun o e => up2 _ o e
    have hcls : ∀ (b : Bool), ((compEnvC scope cl C env).scope.kind == .class || ((compEnvC scope cl C env).scope.kind == .module && b)) = false := fun b => by simp [compEnvC, relabel, hkind]
    refine assignInOrder_cons (wpAny_assign_Name (wpAny_storeName_local (lookup_relabel_local hx₁) nsC (fun h₃ hn₃ hs₃ => ?_) (hcls _)))
    refine assignInOrder_cons (wpAny_assign_Name (wpAny_storeName_local (lookup_relabel_local hx₂) hn₃ (fun h₄ hn₄ hs₄ => ?_) (hcls _)))
    refine assignInOrder_cons (wpAny_assign_Name (wpAny_storeName_local (lookup_relabel_local hx₃) hn₄ (fun h₅ hn₅ hs₅ => ?_) (hcls _)))
    refine assignInOrder_nil ?_
    have up5 : ∀ b o, b ≠ C → h₁.get? b = some o → h₅.get? b = some o := fun b o hb e => hs₅.extBut b o hb (hs₄.extBut b o hb (hs₃.extBut b o hb (up2 b o e)))
    have hit₅ : h₅.IsListIter I ax (i + 1) := hit₁.at fun o e => up5 _ o hCI e
    obtain ⟨oI, heI, hoI⟩ := id hit₅
    obtain ⟨oC, heC, hoC⟩ := ns_obj hn₅
    have F₅ : Fr h₀ L h₅ m := (((F₁.keeps up2).change hs₃ hCL hC₀).change hs₄ hCL hC₀).change hs₅ hCL hC₀
    have N₅ : News h₀ L h₅ ((I, oI) :: (C, oC) :: (D, lst ys) :: nw) := fun p hp => by
      rcases List.mem_cons.mp hp with rfl | hp
      · exact ⟨heI, Ne.symm hIL, hI₀⟩
      rcases List.mem_cons.mp hp with rfl | hp
      · exact ⟨heC, hCL, hC₀⟩
      refine ⟨up5 _ _ ?_ (N₁ p hp).1, (N₁ p hp).2⟩
      rcases List.mem_cons.mp hp with rfl | hp
      · exact Ne.symm hCD
      · exact (off3 p hp).2.1
    refine wpAny_mono (T I oI C oC D _ h₅ _ _ hoC (by simp [h12, h13]) (by simp [h23]) (by simp) F₅ N₅ off ⟨hCI, hDI, hCD⟩) (fun y s₆ h₆ => ?_) fun _ _ e => e
    obtain ⟨h₆, tk₆, nw₆, rfl, F₆, N₆, off₆, _, hInv₆⟩ := h₆
    have N₆' : News h₀ L h₆ nw₆ := fun p hp => N₆ p (List.mem_cons_of_mem _ (List.mem_cons_of_mem _ (List.mem_cons_of_mem _ hp)))
    have zD := (N₆ (D, lst ys) (List.mem_cons_of_mem _ (List.mem_cons_of_mem _ List.mem_cons_self))).1
    have zC := (N₆ (C, oC) (List.mem_cons_of_mem _ List.mem_cons_self)).1
    have zI := (N₆ (I, oI) List.mem_cons_self).1
    refine append_at (hsz := by show ys.toArray.size ≤ sizeLine; rw [List.size_toArray, hlen]; omega) zD fun h₇ hs₇ hD₇ => ?_
    have N₇ : News h₀ L h₇ ((D, lst (ys ++ [y])) :: nw₆) := fun p hp => by
      rcases List.mem_cons.mp hp with rfl | hp
      · exact ⟨hD₇.trans (congrArg some (lst_snoc ys y)), hDL, hD₀⟩
      · exact ⟨hs₇.extBut _ _ (off₆.mem p hp).2.2 (N₆' p hp).1, (N₆' p hp).2⟩
    have F₇ : Fr h₀ L h₇ m := F₆.change hs₇ hDL hD₀
    exact ⟨its.size + 1 - (i + 1), by omega, i + 1, ys ++ [y], nw₆, hlt, rfl, ⟨⟨h₇, _, rfl⟩, ⟨oI, hs₇.extBut _ _ hDI zI, hoI⟩, hsrc _ _ _ _ hInv₆ F₇.keep (fun p hp => N₇ p (List.mem_cons_of_mem _ hp)), F₇, ⟨_, (hoC.ns zC).sameBut hs₇ hCD⟩, N₇, off₆, by simp [hlen], hInv₆⟩⟩
  · refine wpAny_pyNext_list_end hh hit hl (by simp) fun h₁ he => ?_
    have up1 : ∀ b o, b ∉ [I] → h.get? b = some o → h₁.get? b = some o := fun b o hb e => he b o (by simpa using hb) e
    exact fin _ ys nw m' ⟨_, _, rfl⟩ (fr_but F up1 hIL hI₀) (news_but N up1 fun p hp => by
      rcases List.mem_cons.mp hp with rfl | hp
      · exact Ne.symm hDI
      · exact (off3 p hp).1) off (hn.at' fun o e => up1 _ o (by simpa using Ne.symm hCI) e) hInv
def Src3 (prog : Program) (w : World) (A : Around) (h₀ : Heap) (L : Addr) (m : Str → Option Value) (env : Env) (elt : Expr) (x₁ x₂ x₃ : Str) (scope : Scope) (cl : List (Str × Addr)) (Fin : Shared → List Value → List (Addr × Obj) → Prop) (xv : Value) (s₁ : Shared) : Prop :=
  ∃ (ax : Addr) (its : Array Value) (k : Nat) (nw : List (Addr × Obj)) (Inv : Nat → List Value → List (Addr × Obj) → Prop), xv = .ref ax ∧ A.handled = none ∧ Fr h₀ L s₁.heap m ∧ News h₀ L s₁.heap nw ∧ (ax, listOf its k) ∈ nw ∧ its.size ≤ sizeLine ∧
    Inv 0 [] nw ∧ (∀ i ys nw', Inv i ys nw' → (ax, listOf its k) ∈ nw') ∧ Turn3 prog w A h₀ L m env elt x₁ x₂ x₃ scope cl s₁ its Inv ∧ ∀ ys nw', Inv its.size ys nw' → Fin s₁ ys nw'
theorem assign_comp3 {elt iter : Expr} {x₁ x₂ x₃ y : Str} {px₁ px₂ px₃ tp py : Pos} {tk : Nat} {scope : Scope} {cl : List (Str × Addr)} {pos spos : Pos} {Q : Flow → Shared → Prop} (F₀ : Fr h₀ L s.heap m) (hLe : env.locals = L)
    (hsw : swapsWith (.ListComp elt [⟨.Tuple [.Name x₁ px₁, .Name x₂ px₂, .Name x₃ px₃] tk tp, iter, [], 0⟩] scope pos) (some (.Name y py)) spos.line env = pure true)
    (hclos : closureFor scope env = pure cl) (hcell : ∀ z ∈ scope.names, z.2 ≠ .cell) (hkind : scope.kind = .function)
    (hnames : ∀ z ∈ scope.names, z.2 = .local → scope.names.lookup z.1 = some .local) (hx₁ : scope.names.lookup x₁ = some .local) (hx₂ : scope.names.lookup x₂ = some .local) (hx₃ : scope.names.lookup x₃ = some .local) (h12 : x₁ ≠ x₂) (h13 : x₁ ≠ x₃) (h23 : x₂ ≠ x₃)
    (hy : env.kindOf y = some .local) (hp : (env.scope.kind == .class || (env.scope.kind == .module && env.locals != env.globals)) = false)
    (hs : ∀ x, foldedSetIterable iter env x = pure x)
    (h : wpAny (model prog w) A (eval iter env) (Src3 prog w A h₀ L m env elt x₁ x₂ x₃ scope cl (fun s₂ => FinA h₀ L m s₂ y Q)) E s) :
    wpAny (model prog w) A (exec (.Assign [.Name y py] (.ListComp elt [⟨.Tuple [.Name x₁ px₁, .Name x₂ px₂, .Name x₃ px₃] tk tp, iter, [], 0⟩] scope pos) spos) env) Q E s := by
  subst hLe
  rw [exec_Assign_Name_used _ _ _ _ hsw]
  refine wpAny_bind (wpAny_standAt (wpAny_bind ?_))
  show wpAny _ A (do let _ ← comprehension (.ListComp elt [⟨.Tuple [.Name x₁ px₁, .Name x₂ px₂, .Name x₃ px₃] tk tp, iter, [], 0⟩] scope pos) scope env _ (newList []) false (eval iter env) (some (assign (.Name y py) env))) _ _ s
  refine wpAny_bind (wpAny_mono (wpAny_comprehension_free (use := some (assign (.Name y py) env)) (Q := fun _ s' => Q .next s') rfl hs hclos hkind hnames (wpAny_mono h (fun xv s₁ h₁ => ?_) fun _ _ e => e)) (fun _ s' hq => wpAny_pure (wpAny_pure hq)) fun _ _ e => e)
  obtain ⟨ax, its, k, nw, Inv, rfl, hh, F, N, hmem, hsz, hI0, hkeep, T, fin⟩ := h₁
  have hl : s₁.heap.IsList ax its := ⟨_, (N _ hmem).1, rfl, k, rfl⟩
  have hlt : ax < s₁.heap.objs.size := Heap.lt_size (N _ hmem).1
  refine wpAny_pyIter_list hl ?_
  -- the iterator, the list that grows, the names of the comprehension: three new things, one after the other
  refine wpAny_newObj_type (wpAny_newFunctionEnv hcell (by intro z hz; simp at hz) (fun h₃ hns hsb => ?_) hkind)
  dsimp only at hns hsb ⊢
  generalize hH1 : s₁.heap.push { cls := .type "list_iterator", data := .fields #[.ref ax, .int 0 0] } = H1 at hns hsb ⊢
  generalize hH2 : H1.push { cls := .type "list", dict := none, data := .seq ([] : List Value).toArray } = H2 at hns hsb ⊢
  have z1 : H1.objs.size = s₁.heap.objs.size + 1 := by rw [← hH1, Heap.size_push]
  have z2 : H2.objs.size = H1.objs.size + 1 := by rw [← hH2, Heap.size_push]
  generalize hI : s₁.heap.objs.size = I at *
  generalize hD : H1.objs.size = D at *
  generalize hC : H2.objs.size = C at *
  have nID : I ≠ D := by rw [z1]; exact Nat.ne_of_lt (Nat.lt_succ_self _)
  have nDC : D ≠ C := by rw [z2]; exact Nat.ne_of_lt (Nat.lt_succ_self _)
  have lIC : @LT.lt Nat _ I C := by rw [z2, z1]; exact Nat.lt_succ_of_lt (Nat.lt_succ_self _)
  have up1 : ∀ b o, s₁.heap.get? b = some o → H1.get? b = some o := fun b o e => hH1 ▸ Heap.get?_push_of_some _ e
  have up2 : ∀ b o, H1.get? b = some o → H2.get? b = some o := fun b o e => hH2 ▸ Heap.get?_push_of_some _ e
  have up3 : ∀ b o, b ≠ C → H2.get? b = some o → h₃.get? b = some o := fun b o hb e => hsb.extBut b o hb (Heap.get?_push_of_some _ e)
  have lt1 : ∀ b o, s₁.heap.get? b = some o → @LT.lt Nat _ b I := fun b o e => hI ▸ Heap.lt_size e
  have neC : ∀ b : Addr, @LT.lt Nat _ b I → b ≠ C := fun b hb => Nat.ne_of_lt (Nat.lt_trans hb lIC)
  have neD : ∀ b : Addr, @LT.lt Nat _ b I → b ≠ D := fun b hb => by rw [z1]; exact Nat.ne_of_lt (Nat.lt_succ_of_lt hb)
  have up : ∀ b o, s₁.heap.get? b = some o → h₃.get? b = some o := fun b o e => up3 b o (neC b (lt1 b o e)) (up2 b o (up1 b o e))
  have eI : h₃.get? I = some { cls := .type "list_iterator", data := .fields #[.ref ax, .int 0 0] } := up3 _ _ (Nat.ne_of_lt lIC) (up2 _ _ (by rw [← hI, ← hH1]; exact Heap.get?_push_size _ rfl))
  have eD : h₃.get? D = some (lst []) := up3 _ _ nDC (by rw [← hD, ← hH2]; exact Heap.get?_push_size _ rfl)
  have fresh : ∀ a : Addr, @LE.le Nat _ I a → h₀.get? a = none := fun a ha => by
    cases e : h₀.get? a with
    | none => rfl
    | some o' => exact absurd (lt1 a o' (F.keep a o' e)) (Nat.not_lt.mpr ha)
  have hL : @LT.lt Nat _ env.locals I := hI ▸ F.ns.lt
  have offn : ∀ p ∈ nw, p.1 ≠ I ∧ p.1 ≠ C ∧ p.1 ≠ D := fun p hp => have q := lt1 _ _ (N p hp).1; ⟨Nat.ne_of_lt q, neC _ q, neD _ q⟩
  have hI₀ := fresh I (Nat.le_refl _)
  have hD₀ : h₀.get? D = none := fresh D (by rw [z1]; exact Nat.le_succ _)
  have hC₀ : h₀.get? C = none := fresh C (Nat.le_of_lt lIC)
  have hDL : D ≠ env.locals := Ne.symm (neD _ hL)
  have hCL : C ≠ env.locals := Ne.symm (neC _ hL)
  have fresh_locals : h₀.get? env.locals = none := Heap.get?_none_of_le F.above
  have itr : h₃.IsListIter I ax 0 := ⟨_, eI, rfl, rfl⟩
  have off : Off3 I C D nw := Off3.of offn
  have F₃ : Fr h₀ env.locals h₃ m := F.keeps up
  have N₃ : News h₀ env.locals h₃ ((D, lst []) :: nw) := fun p hp => by
    rcases List.mem_cons.mp hp with rfl | hp
    · exact ⟨eD, hDL, hD₀⟩
    · exact ⟨up _ _ (N p hp).1, (N p hp).2⟩
  have loop := loop3 (elt := elt) (iter := iter) (px₁ := px₁) (px₂ := px₂) (px₃ := px₃) (tp := tp) (tk := tk) (cl := cl) (pos := pos) (R := fun r s' => r = .ok .next ∧ ∃ ys nw m', (∃ h tk, s' = { s₁ with heap := h, toks := tk }) ∧ Fr h₀ env.locals s'.heap m ∧ News h₀ env.locals s'.heap ((D, lst ys) :: nw) ∧ Off3 I C D nw ∧ s'.heap.Ns C m' ∧ Inv its.size ys nw)
    hh hsz hkind hx₁ hx₂ hx₃ h12 h13 h23 (Ne.symm (Nat.ne_of_gt hL)) hCL hDL (Nat.ne_of_lt (lt1 _ _ (N _ hmem).1)) (Nat.ne_of_lt lIC) nID (Ne.symm nDC) hI₀ hC₀ hD₀
    (fun i ys nw' h hv _ N' => ⟨_, (N' _ (hkeep _ _ _ hv)).1, rfl, k, rfl⟩) T (fun s' ys nw' m' sh F' N' off' n' hv => ⟨rfl, ys, nw', m', sh, F', N', off', n', hv⟩)
    (s' := { s₁ with heap := h₃, toks := s₁.toks + ([] : List (Str × Value)).length }) ⟨⟨_, _, rfl⟩, itr, ⟨_, up _ _ (N _ hmem).1, rfl, k, rfl⟩, F₃, ⟨_, hns⟩, N₃, off, rfl, hI0⟩
  have loop' := codeAny_mono (R' := compPost (model prog w) A E (some (assign (.Name y py) env)) (fun _ s' => Q .next s') (.ref D) C) loop ?post
  · exact codeAny_compStart_list loop' (wpAny_pyIter_listiter itr loop')
  rintro r s' ⟨rfl, ys, nw', m', ⟨h', tk', rfl⟩, F', N', off', n', hv⟩
  show wpAny _ A (assign (.Name y py) env (.ref D)) _ _ _
  refine wpAny_assign_Name (wpAny_storeName_local hy F'.ns (fun h₂ hn₂ hs₂ => ?_) hp)
  have F₂ : Fr h₀ env.locals h₂ (fun z => if z = y then some (.ref D) else m z) := ⟨hn₂, fun b o e => hs₂.extBut b o (fun q => by rw [q, fresh_locals] at e; cases e) (F'.keep b o e), F'.above⟩
  refine ⟨m', n'.sameBut hs₂ hCL, fun h'' hs'' => fin ys nw' hv D h'' _ (F₂.change hs'' hCL hC₀) (fun p hp => ?_) off'.one⟩
  have z : h₂.get? p.1 = some p.2 := hs₂.extBut _ _ (N' p hp).2.1 (N' p hp).1
  refine ⟨hs''.extBut _ _ ?_ z, (N' p hp).2⟩
  rcases List.mem_cons.mp hp with rfl | hp
  · exact nDC
  · exact (off'.mem p hp).2.1
end
end Mine
namespace Mine
theorem rules61 : True := by
  w_top off
  k_with_none
  k_with "execs cons" => (k_here; (try k_gentoks); (with_reducible refine execs_hide ?_); intro «Q✝» «k✝»; try dsimp only)
  trivial
/-! copying rows: what the two comprehensions of the law do -/
section
theorem rowsAt_mem {f : Array UInt8 → Option (List (Array UInt8) × Option (Array UInt8))} : ∀ (bs : List (Array UInt8)) (i : Nat) (r : Row), r ∈ rowsAt f i bs → ∃ b ∈ bs, ∃ fs rm, f b = some (fs, rm) ∧ r.2 = (fs, rm)
  | [], _, r, h => nomatch h
  | b :: bs, i, r, h => by
    have ih := rowsAt_mem (f := f) bs (i + 1) r
    have e : rowsAt f i (b :: bs) = (match f b with | some (fs, rm) => ((i : Int) + 1, fs, rm) :: rowsAt f (i + 1) bs | none => rowsAt f (i + 1) bs) := rfl
    rw [e] at h
    have up : r ∈ rowsAt f (i + 1) bs → ∃ b' ∈ b :: bs, ∃ fs rm, f b' = some (fs, rm) ∧ r.2 = (fs, rm) := fun h => by
      obtain ⟨b', hb, z⟩ := ih h
      exact ⟨b', List.mem_cons_of_mem _ hb, z⟩
    cases hf : f b with
    | none => rw [hf] at h; exact up h
    | some p =>
      rw [hf] at h
      rcases List.mem_cons.mp h with h | h
      · exact ⟨b, List.mem_cons_self .., p.1, p.2, hf, by rw [h]⟩
      · exact up h
theorem fields_len (b : Array UInt8) : (fieldsB b).length ≤ b.size + 2 := by
  unfold fieldsB
  rw [List.length_map]
  exact split_le b #[59]
theorem pre_size (b : Array UInt8) : (preB b).size ≤ b.size := by
  unfold preB
  split
  · exact Nat.le_refl _
  · exact KBc.size_picked_le _ _ _
theorem post_size (b : Array UInt8) : (postB b).size ≤ b.size := by
  unfold postB
  split
  · exact Nat.zero_le _
  · exact KBc.size_picked_le _ _ _
def Rows3 (rs : List Row) : Prop := ∀ r ∈ rs, r.2.2.isSome = true ∧ r.2.1.length ≤ 3000
def Rows2 (rs : List Row) : Prop := ∀ r ∈ rs, r.2.2 = none ∧ r.2.1.length ≤ 3000
theorem rows3 {bs : List (Array UInt8)} (hz : ∀ b ∈ bs, b.size ≤ 2000) : Rows3 (rowsAt rowB 0 bs) := fun r hr => by
  obtain ⟨b, hb, fs, rm, h, e⟩ := rowsAt_mem bs 0 r hr
  have z := hz b hb
  have z1 := fields_len (preB b)
  have z2 := pre_size b
  unfold rowB at h
  split at h
  · injection h with h
    rw [e, ← h]
    exact ⟨rfl, by simp only; omega⟩
  · cases h
theorem rows2 {bs : List (Array UInt8)} (hz : ∀ b ∈ bs, b.size ≤ 2000) : Rows2 (rowsAt lmissB 0 bs) := fun r hr => by
  obtain ⟨b, hb, fs, rm, h, e⟩ := rowsAt_mem bs 0 r hr
  have z := hz b hb
  have z1 := fields_len (KBy.picked (barB (postB b)) (some 9) none)
  have z2 := KBc.size_picked_le (barB (postB b)) (some 9) none
  have z3 : (barB (postB b)).size ≤ (postB b).size := BB.strip_size _ _
  have z4 := post_size b
  unfold lmissB at h
  split at h
  · injection h with h
    rw [e, ← h]
    exact ⟨rfl, by simp only; omega⟩
  · cases h
theorem row3 {base : List (Addr × Obj)} {v : Value} {r : Row} (h : RowIn base v r) (hr3 : r.2.2.isSome = true) : ∃ (T F : Addr) (t u : Tok) (vs : List Value) (k : Nat) (n : Int) (fs : List (Array UInt8)) (b : Array UInt8),
    v = .ref T ∧ r = (n, fs, some b) ∧ (T, tupObj #[.int n t, .ref F, .bytes b u]) ∈ base ∧ (F, listOf vs.toArray k) ∈ base ∧ BB.BAre vs fs := by
  cases h with
  | two h1 h2 h3 => cases hr3
  | three h1 h2 h3 => exact ⟨_, _, _, _, _, _, _, _, _, rfl, rfl, h1, h2, h3⟩
theorem row2 {base : List (Addr × Obj)} {v : Value} {r : Row} (h : RowIn base v r) (hr3 : r.2.2 = none) : ∃ (T F : Addr) (t : Tok) (vs : List Value) (k : Nat) (n : Int) (fs : List (Array UInt8)),
    v = .ref T ∧ r = (n, fs, none) ∧ (T, tupObj #[.int n t, .ref F]) ∈ base ∧ (F, listOf vs.toArray k) ∈ base ∧ BB.BAre vs fs := by
  cases h with
  | two h1 h2 h3 => exact ⟨_, _, _, _, _, _, _, rfl, rfl, h1, h2, h3⟩
  | three h1 h2 h3 => cases hr3
theorem rows_at {base : List (Addr × Obj)} {ys : List Value} {rs : List Row} (h : RowsIn base ys rs) {i : Nat} {v : Value} (hv : ys.toArray[i]? = some v) : ∃ r, RowIn base v r ∧ r ∈ rs ∧ rs.take (i + 1) = rs.take i ++ [r] := by
  rw [List.getElem?_toArray] at hv
  obtain ⟨hi, rfl⟩ := List.getElem?_eq_some_iff.mp hv
  have hr : i < rs.length := h.length ▸ hi
  exact ⟨rs[i], h.get i hi hr, List.getElem_mem _, by rw [List.take_add_one, List.getElem?_eq_getElem hr]; rfl⟩
section
variable {prog : Program} {w : World} {A : Around} {E : Value → Shared → Prop} {s : Shared} {h₀ : Heap} {L : Addr} {m : Str → Option Value} {news : List (Addr × Obj)}
theorem list_copyB {F : Addr} {vs : List Value} {n : Nat} {fs : List (Array UInt8)} {Q : Value → Shared → Prop} (Fx : Fr h₀ L s.heap m) (N : News h₀ L s.heap news) (hb : (F, listOf vs.toArray n) ∈ news) (hB : BB.BAre vs fs) (hz : fs.length ≤ 3000)
    (h : ∀ D c h', Fr h₀ L h' m → News h₀ L h' ((D, listOf vs.toArray c) :: news) → (∀ q ∈ news, q.1 < D) → Q (.ref D) { s with heap := h' }) : wpAny (model prog w) A (call (.type "list") [.ref F]) Q E s :=
  kup_listOf Fx N hb rfl h (by rw [List.toList_toArray, hB.length, sizeLine_eq]; omega)
/-- rows copied so far -/
def Copied (base : List (Addr × Obj)) (rs : List Row) (i : Nat) (zs : List Value) (nw : List (Addr × Obj)) : Prop := (∀ p ∈ base, p ∈ nw) ∧ RowsIn nw zs (rs.take i)
theorem copy_end {base nw : List (Addr × Obj)} {rs : List Row} {r : Row} {i : Nat} {zs : List Value} {I C D T2 D2 : Addr} {oI oC oT : Obj} {vs : List Value} {c tk : Nat} {h' : Heap} {s₁ : Shared} {S : List (Addr × Obj) → Prop}
    (Fx : Fr h₀ L h' m) (N : News h₀ L h' ((T2, oT) :: (D2, listOf vs.toArray c) :: (I, oI) :: (C, oC) :: (D, LCg.lst zs) :: nw)) (off : LCg.Off3 I C D nw) (e1 : T2 ≠ I ∧ T2 ≠ C ∧ T2 ≠ D) (e2 : D2 ≠ I ∧ D2 ≠ C ∧ D2 ≠ D)
    (hI : Copied base rs i zs nw) (ht : rs.take (i + 1) = rs.take i ++ [r]) (hr : RowIn ((T2, oT) :: (D2, listOf vs.toArray c) :: nw) (.ref T2) r) (hS : S ((T2, oT) :: (D2, listOf vs.toArray c) :: nw)) :
    LCg.CompEnd h₀ L m s₁ I oI C oC D (LCg.lst zs) S (fun y nw' => Copied base rs (i + 1) (zs ++ [y]) nw') (.ref T2) { s₁ with heap := h', toks := tk } := by
  refine LCg.CompEnd.intro Fx N ((T2, oT) :: (D2, listOf vs.toArray c) :: nw) (fun p hp => ?_) ⟨e1, e2, off⟩ hS ⟨fun p hp => .tail _ (.tail _ (hI.1 p hp)), ?_⟩
  · simp only [List.mem_cons] at hp ⊢
    rcases hp with h | h | h | h | h | h
    · exact .inr (.inr (.inl h))
    · exact .inr (.inr (.inr (.inl h)))
    · exact .inr (.inr (.inr (.inr (.inl h))))
    · exact .inl h
    · exact .inr (.inl h)
    · exact .inr (.inr (.inr (.inr (.inr h))))
  · rw [ht]
    exact (hI.2.mono fun p hp => .tail _ (.tail _ hp)).append hr
theorem copy_all {base nw : List (Addr × Obj)} {rs : List Row} {ys zs : List Value} (h : RowsIn base ys rs) (hI : Copied base rs ys.toArray.size zs nw) : RowsIn nw zs rs := by
  have := hI.2
  rwa [List.size_toArray, h.length, List.take_length] at this
end
section
variable {prog : Program} {w : World} {A : Around} {h₀ : Heap} {L : Addr} {m : Str → Option Value} {env : Env} {elt : Expr} {x x₂ : Str} {scope : Scope} {cl : List (Str × Addr)} {s : Shared} {S : List (Addr × Obj) → Prop} {P : Nat → Value → Prop} {Fin : List Value → List (Addr × Obj) → Prop}
theorem compRestP_ind (Inv : Nat → List Value → List (Addr × Obj) → Prop) {n : Nat}
    (turn : ∀ i ys news v, i < n → Inv i ys news → P i v → ∃ (t : Addr) (v₁ v₂ : Value), v = .ref t ∧ (t, tupObj #[v₁, v₂]) ∈ news ∧
      ∀ I oI C oC D m₂ h tk (E' : Value → Shared → Prop), LCg.NsObj oC m₂ → m₂ x = some v₁ → m₂ x₂ = some v₂ → Fr h₀ L h m → News h₀ L h ((I, oI) :: (C, oC) :: (D, LCg.lst ys) :: news) → LCg.Off3 I C D news → ((@Ne Nat I C) ∧ (@Ne Nat I D) ∧ (@Ne Nat C D)) →
      wpAny (model prog w) A (eval elt (compEnvC scope cl C env)) (LCg.CompEnd h₀ L m { s with heap := h, toks := tk } I oI C oC D (LCg.lst ys) S (fun y news' => Inv (i + 1) (ys ++ [y]) news')) E' { s with heap := h, toks := tk })
    (fin : ∀ ys news, Inv n ys news → Fin ys news) : ∀ k i ys news, i + k = n → Inv i ys news → LCp.CompRestP prog w A h₀ L m env elt x x₂ scope cl s S P Fin k i ys news
  | 0, i, ys, news, e, hI => LCp.CompRestP.zero (fin ys news (by rw [← e]; exact hI))
  | k + 1, i, ys, news, e, hI => by
    refine LCp.CompRestP.succ fun v hP => ?_
    obtain ⟨t, v₁, v₂, hv, hm, T⟩ := turn i ys news v (by omega) hI hP
    refine ⟨t, _, v₁, v₂, 0, hv, hm, rfl, rfl, fun I oI C oC D m₂ h tk E' hN hx hx2 F N off ne => ?_⟩
    refine wpAny_mono (T I oI C oC D m₂ h tk E' hN hx hx2 F N off ne) (fun y s₂ hE => ?_) fun _ _ e => e
    obtain ⟨h', tk', news', e', F', N', off', hS, hr⟩ := hE
    exact ⟨h', tk', news', e', F', N', off', hS, compRestP_ind Inv turn fin k (i + 1) _ _ (by omega) hr⟩
end
/-! the octets that the law reads -/
theorem join_small {bs : List (Array UInt8)} {z : Nat} (hz : ∀ b ∈ bs, b.size ≤ z) : (BB.joinB #[10] bs).size ≤ (z + 1) * bs.length := by
  cases bs with
  | nil => exact Nat.zero_le _
  | cons b r =>
    rw [← Array.length_toList, join_list]
    have key : ∀ r : List (Array UInt8), (∀ b ∈ r, b.size ≤ z) → (r.flatMap fun p => (10 : UInt8) :: p.toList).length ≤ (z + 1) * r.length := by
      intro r
      induction r with
      | nil => intro _; exact Nat.zero_le _
      | cons p r ih =>
        intro h
        have h1 := h p (List.mem_cons_self ..)
        have h2 := ih fun q hq => h q (List.mem_cons_of_mem _ hq)
        rw [List.flatMap_cons, List.length_append, List.length_cons, List.length_cons, Array.length_toList, Nat.mul_succ]
        omega
    have h1 := hz b (List.mem_cons_self ..)
    have h2 := key r fun q hq => hz q (List.mem_cons_of_mem _ hq)
    rw [List.length_append, Array.length_toList, List.length_cons, Nat.mul_succ]
    omega
structure Octets (O : Array UInt8) (bs : List (Array UInt8)) : Prop where
  size : O.size ≤ 2000
  lines : (BB.splitBy (unmark O) #[10]).length ≤ 1000
  told : rowsAt rowB 0 (BB.splitBy (unmark O) #[10]) = rowsAt rowB 0 bs
  miss : rowsAt pmissB 0 (BB.splitBy (unmark O) #[10]) = rowsAt lmissB 0 bs
theorem octets {bs : List (Array UInt8)} {n : Nat} (hl : bs.length = n) (hn1 : 1 ≤ n) (hn5 : n ≤ 5) (hg : ∀ b ∈ bs, Good b) {b1 b3 : Array UInt8} (h1 : b1 = #[] ∨ b1 = markB) (h3 : b3 = #[] ∨ b3 = #[10]) : Octets (b1 ++ BB.joinB #[10] bs ++ b3) bs := by
  have hne : bs ≠ [] := fun e => by rw [e] at hl; simp at hl; omega
  have hj := join_small (z := 200) fun b hb => (hg b hb).size
  have hj' : (200 + 1) * bs.length ≤ 201 * 5 := Nat.mul_le_mul_left _ (by omega)
  have s1 : b1.size ≤ 3 := by rcases h1 with rfl | rfl <;> decide
  have s3 : b3.size ≤ 1 := by rcases h3 with rfl | rfl <;> decide
  refine ⟨by rw [Array.size_append, Array.size_append]; omega, ?_, rows_back rowB_nil hne hg h1 h3, ?_⟩
  · rcases lines_back hne hg h1 h3 with e | e
    · rw [e]; omega
    · rw [e, List.length_append]; simp; omega
  · rw [rows_back pmissB_nil hne hg h1 h3]
    exact rowsAt_same bs 0 fun b hb => miss_same (hg b hb)
end
end Mine
namespace Mine
theorem rules65 : True := by
  w_top off
  k_with_none
  k_with "execs cons" => (k_here; (try k_gentoks); (with_reducible refine execs_hide ?_); intro «Q✝» «k✝»; try dsimp only)
  trivial
def SrcHere (P : Value → Shared → Prop) (v : Value) (s : Shared) : Prop := P v s
theorem src_here {M : Model} {A : Around} {t : Sem Value} {Q E : Value → Shared → Prop} {s : Shared} (h : wpAny M A t (SrcHere Q) E s) : wpAny M A t Q E s := h
section
variable {w : World} {loose : List Str} {mean : ExcName → Option Value} {mg mb : Str → Option Value} {dp un : Nat} {gd : Option (List Code)} {cn : Str} {cs : Scope} {a : Addr} {ccd : Value} {cl : List (Str × Addr)} {outer : List Env} {A₀ : Around} {base h₀ : Heap} {L : Addr} {m : Str → Option Value} {s : Shared} {Q E : Value → Shared → Prop} {news : List (Addr × Obj)}
theorem deck_specD {S : Addr} {vs : List Value} {ns : List Int} (B : Below A₀ base outer h₀) (F : Fr h₀ L s.heap m) (X : (hd.heap_39 w.params).In h₀) (N : News h₀ L s.heap news) (T : Top hd.view_39 loose mean mg mb h₀) (hk : cs.kind = .function)
    (hdp : dp + 40 < recursionLimit) (hu : un + 400 < cLine) (hL : h₀.IsList S vs.toArray) (hI : IntsAre vs ns) (hn : ns.length ≤ 63)
    (ret : ∀ D C od' oc' h' tk, Deck w D C od' oc' news → Fr h₀ L h' m → News h₀ L h' ((D, od') :: (C, oc') :: news) → Q (.ref D) { s with heap := h', toks := tk }) :
    wpAny (model PySem.Challenge.rw_nt0003_01.prog w) (ktrTop dp un gd cn cs L a ccd cl outer) (call (.ref 112) [.ref S]) Q E s := deck_spec (cs' := cs) B F X N T hk hdp hu hL hI hn ret
end
theorem Deck.ext3 {w : World} {D C I C1 D1 : Addr} {od oc oI oC oD : Obj} {r : List (Addr × Obj)} (K : Deck w D C od oc r) (off : LCg.Off3 I C1 D1 ((D, od) :: (C, oc) :: r)) : Deck w D C od oc ((I, oI) :: (C1, oC) :: (D1, oD) :: r) := by
  have h1 := off.mem (D, od) (.head _)
  have h2 := off.mem (C, oc) (.tail _ (.head _))
  refine ⟨K.ex, K.ne, fun p hp => ?_, fun p hp => ?_⟩
  · simp only [List.mem_cons] at hp
    rcases hp with rfl | rfl | rfl | hp
    · exact Ne.symm h1.1
    · exact Ne.symm h1.2.1
    · exact Ne.symm h1.2.2
    · exact K.offD p hp
  · simp only [List.mem_cons] at hp
    rcases hp with rfl | rfl | rfl | hp
    · exact Ne.symm h2.1
    · exact Ne.symm h2.2.1
    · exact Ne.symm h2.2.2
    · exact K.offC p hp
theorem Deck.less3 {w : World} {D C : Addr} {od oc : Obj} {p1 p2 p3 : Addr × Obj} {r : List (Addr × Obj)} (K : Deck w D C od oc (p1 :: p2 :: p3 :: r)) : Deck w D C od oc r := K.of fun p hp => ⟨p, .tail _ (.tail _ (.tail _ hp)), rfl⟩
theorem perm3 {h₀ h : Heap} {L : Addr} {p1 p2 p3 q1 q2 : Addr × Obj} {r : List (Addr × Obj)} (N : News h₀ L h (p1 :: p2 :: p3 :: q1 :: q2 :: r)) : News h₀ L h (q1 :: q2 :: p1 :: p2 :: p3 :: r) := fun p hp => N p (by
  simp only [List.mem_cons] at hp ⊢
  rcases hp with h | h | h | h | h | h
  · exact .inr (.inr (.inr (.inl h)))
  · exact .inr (.inr (.inr (.inr (.inl h))))
  · exact .inl h
  · exact .inr (.inl h)
  · exact .inr (.inr (.inl h))
  · exact .inr (.inr (.inr (.inr (.inr h)))))
theorem unperm3 {p1 p2 p3 q1 q2 : Addr × Obj} {r : List (Addr × Obj)} : ∀ p ∈ p1 :: p2 :: p3 :: q1 :: q2 :: r, p ∈ q1 :: q2 :: p1 :: p2 :: p3 :: r := fun p hp => by
  simp only [List.mem_cons] at hp ⊢
  rcases hp with h | h | h | h | h | h
  · exact .inr (.inr (.inl h))
  · exact .inr (.inr (.inr (.inl h)))
  · exact .inr (.inr (.inr (.inr (.inl h))))
  · exact .inl h
  · exact .inr (.inl h)
  · exact .inr (.inr (.inr (.inr (.inr h))))
theorem Deck.pushN {w : World} {D C l : Addr} {od oc o : Obj} {news : List (Addr × Obj)} (K : Deck w D C od oc news) (h1 : @Ne Nat D l) (h2 : @Ne Nat C l) : Deck w D C od oc ((l, o) :: news) :=
  ⟨K.ex, K.ne, fun p hp => by
    rcases List.mem_cons.mp hp with rfl | hp
    · exact Ne.symm h1
    · exact K.offD p hp, fun p hp => by
    rcases List.mem_cons.mp hp with rfl | hp
    · exact Ne.symm h2
    · exact K.offC p hp⟩
def CallHere (M : Model) (A : Around) (v : Value) (xs : List Value) (Q : Value → Shared → Prop) (E : Value → Shared → Prop) (s : Shared) : Prop := wpAny M A (call v xs) Q E s
theorem call_here {M : Model} {A : Around} {v : Value} {xs : List Value} {Q : Value → Shared → Prop} {E : Value → Shared → Prop} {s : Shared} (h : CallHere M A v xs Q E s) : wpAny M A (call v xs) Q E s := h
/-- the deck first in the ledger, and good lines told so far -/
def LinesInv (w : World) (D C : Addr) (r : List (Addr × Obj)) (i : Nat) (ys : List Value) (nw : List (Addr × Obj)) : Prop :=
  ∃ od oc bs, nw = (D, od) :: (C, oc) :: r ∧ Deck w D C od oc r ∧ BB.BAre ys bs ∧ bs.length = i ∧ ∀ b ∈ bs, Good b
section
variable {prog : Program} {w : World} {A : Around} {E : Value → Shared → Prop} {s : Shared} {h₀ : Heap} {L : Addr} {m : Str → Option Value} {env : Env}
theorem range5 {elt : Expr} {x : Str} {scope : Scope} {cl : List (Str × Addr)} {Fin : Shared → List Value → List (Addr × Obj) → Prop} {r : Addr} {k : Int} {t u v : Tok} {news : List (Addr × Obj)} {s₁ : Shared}
    (hh : A.handled = none) (F : Fr h₀ L s₁.heap m) (N : News h₀ L s₁.heap news) (hr : IsRange s₁.heap r 0 (1 + k) 1 t u v) (h0 : 0 ≤ k) (h5 : k < 5)
    (h : ∀ n g, 1 ≤ n → n ≤ 5 → LCg.CompRest prog w A h₀ L m env elt x scope cl { s₁ with heap := g } (fun _ => True) (fun i v => ∃ t, v = .int (0 + (i : Int)) t) (Fin { s₁ with heap := g }) n 0 [] news) :
    LCg.CompSrc prog w A h₀ L m env elt x scope cl Fin (.ref r) s₁ := by
  refine LCg.CompSrc.range (n := (1 + k).toNat) hh F N hr ?_ ?_ (by rw [sizeLine_eq]; omega) fun g => h _ g (by omega) (by omega)
  · have : k = 0 ∨ k = 1 ∨ k = 2 ∨ k = 3 ∨ k = 4 := by omega
    rcases this with rfl | rfl | rfl | rfl | rfl <;> rfl
  · have : k = 0 ∨ k = 1 ∨ k = 2 ∨ k = 3 ∨ k = 4 := by omega
    rcases this with rfl | rfl | rfl | rfl | rfl <;> rfl
end
theorem menu_mark {b : Array UInt8} {t1 t2 t3 : Tok} (h : b ∈ menu [.bytes #[] t1, .bytes #[] t2, .bytes #[239, 187, 191] t3]) : b = #[] ∨ b = markB := by simpa [menu, bytesOf, markB, eq_comm] using h
theorem menu_end {b : Array UInt8} {t1 t2 t3 : Tok} (h : b ∈ menu [.bytes #[10] t1, .bytes #[] t2, .bytes #[10] t3]) : b = #[] ∨ b = #[10] := by
  have : b = #[10] ∨ b = #[] ∨ b = #[10] := by simpa [menu, bytesOf, eq_comm] using h
  rcases this with e | e | e
  · exact .inr e
  · exact .inl e
  · exact .inr e
theorem menu_mark_size {b : Array UInt8} {t1 t2 t3 : Tok} (h : b ∈ menu [.bytes #[] t1, .bytes #[] t2, .bytes #[239, 187, 191] t3]) : b.size ≤ 3 := by rcases menu_mark h with rfl | rfl <;> decide
theorem menu_end_size {b : Array UInt8} {t1 t2 t3 : Tok} (h : b ∈ menu [.bytes #[10] t1, .bytes #[] t2, .bytes #[10] t3]) : b.size ≤ 1 := by rcases menu_end h with rfl | rfl <;> decide
theorem up_tail {h₀ h : Heap} {L : Addr} {p q r : Addr × Obj} {tl nw : List (Addr × Obj)} (_ : News h₀ L h (p :: tl)) (S3 : ∀ x ∈ r :: nw, x ∈ tl) (hm : q ∈ nw) : q ∈ p :: tl := .tail _ (S3 _ (.tail _ hm))
theorem up_all {h₀ h : Heap} {L : Addr} {p r r2 : Addr × Obj} {tl nw tl0 base0 : List (Addr × Obj)} (_ : News h₀ L h (p :: tl)) (S3 : ∀ x ∈ r :: nw, x ∈ tl) (S2 : ∀ x ∈ r2 :: tl0, x ∈ nw) (S1 : ∀ x ∈ base0, x ∈ tl0) : ∀ x ∈ base0, x ∈ p :: tl := fun x hx => .tail _ (S3 _ (.tail _ (S2 _ (.tail _ (S1 x hx)))))
theorem cut_down {h₀ h : Heap} {L D C c : Addr} {q r r2 : Addr × Obj} {od oc o o1 o2 o3 : Obj} {l1 l2 l3 : Addr} {tl nw tl5 tl6 : List (Addr × Obj)} (N : News h₀ L h (q :: tl)) (S7 : ∀ x ∈ r :: nw, x ∈ tl) (S6 : ∀ x ∈ r2 :: tl6, x ∈ nw) (S5 : ∀ x ∈ tl5, x ∈ tl6) (hm : ∀ x ∈ [(D, od), (C, oc), (l1, o1), (l2, o2), (l3, o3), (c, o)], x ∈ tl5) :
    News h₀ L h [(D, od), (C, oc), (c, o)] := fun p hp => N p (.tail _ (S7 _ (.tail _ (S6 _ (.tail _ (S5 _ (hm _ (by
  simp only [List.mem_cons, List.not_mem_nil, or_false] at hp ⊢
  rcases hp with h | h | h
  · exact .inl h
  · exact .inr (.inl h)
  · exact .inr (.inr (.inr (.inr (.inr h))))))))))))
theorem IsField.size {b : Array UInt8} (h : IsField b) : b.size ≤ 100 := by
  have hc : ∀ c ∈ codesB, c.size ≤ 40 := by decide
  have hf : ∀ c ∈ farsB, c.size ≤ 40 := by decide
  rcases h with h | ⟨c, hc', f, hf', rfl⟩
  · exact Nat.le_trans (hc _ h) (by decide)
  · have := hc _ hc'
    have := hf _ hf'
    simp only [Array.size_append]
    show c.size + 2 + f.size ≤ 100
    omega
theorem unr_endZ {w : World} {h₀ h' : Heap} {L D C I c : Addr} {od oc it it' o : Obj} {all : List (Addr × Obj)} {s₁ : Shared} {tk : Nat} {m' : Str → Option Value} {rest : (Str → Option Value) → List (Addr × Obj) → Prop} (K : Deck w D C od oc [(I, it'), (c, o)])
    (F : Fr h₀ L h' m') (N : News h₀ L h' all) (mI : (I, it) ∈ all) (mD : (D, od) ∈ all) (mC : (C, oc) ∈ all) (mc : (c, o) ∈ all) (hc : @Ne Nat c I) (r : rest m' [(D, od), (C, oc), (c, o)]) :
    UnrEnd h₀ L s₁ I it rest { s₁ with heap := h', toks := tk } := by
  refine UnrEnd.intro F N _ (fun p hp => ?_) (fun p hp => ?_) r
  · simp only [List.mem_cons, List.not_mem_nil, or_false] at hp
    rcases hp with rfl | rfl | rfl | rfl
    · exact mI
    · exact mD
    · exact mC
    · exact mc
  · simp only [List.mem_cons, List.not_mem_nil, or_false] at hp
    rcases hp with rfl | rfl | rfl
    · exact fun e => K.offD _ (.head _) e.symm
    · exact fun e => K.offC _ (.head _) e.symm
    · exact hc
theorem ne_pair {prog : Program} {w : World} {A : Around} {s : Shared} {E : Value → Shared → Prop} {Q : Value → Shared → Prop} {h₀ : Heap} {L : Addr} {n1 : List (Addr × Obj)} {T U : Addr} {x y : Int} {t1 t2 u1 u2 : Tok} (N : News h₀ L s.heap n1) (hT : (T, { cls := .type "tuple", data := .seq #[.int x t1, .int y t2] }) ∈ n1) (hU : (U, { cls := .type "tuple", data := .seq #[.int x u1, .int y u2] }) ∈ n1) (hu : A.units < cLine)
    (h : Q (.bool false) s) : wpAny (model prog w) A (compareOp .NotEq (.ref T) (.ref U)) Q E s := by
  refine ne_tup (isTup_mem N hT) (isTup_mem N hU) rfl hu (fun j h1 h2 => ?_) h
  match j, h1, h2 with
  | 0, _, _ => exact eqAt_int _ _ _
  | 1, _, _ => exact eqAt_int _ _ _
theorem rows_cons {h₀ h : Heap} {L : Addr} {p : Addr × Obj} {tl : List (Addr × Obj)} {ys : List Value} {rs : List Row} (_ : News h₀ L h (p :: tl)) (R : RowsIn tl ys rs) : RowsIn (p :: tl) ys rs := R.mono fun _ hp => .tail _ hp
theorem rows_le {tl : List (Addr × Obj)} {ys : List Value} {f : Array UInt8 → Option (List (Array UInt8) × Option (Array UInt8))} {bs : List (Array UInt8)} (h : RowsIn tl ys (rowsAt f 0 bs)) (hn : bs.length ≤ 1000) : ys.toArray.size ≤ sizeLine := by
  have := h.length
  have := rowsAt_le f bs 0
  rw [List.size_toArray, sizeLine_eq]
  omega
section
theorem rules62 : True := by
  k_with "getMethod bytes" => (k_here; first | (with_reducible refine BB.find_method ?_) | (with_reducible refine BB.strip_method ?_) | (with_reducible refine BB.split_method ?_) | (with_reducible refine BB.join_method ?_) | (with_reducible refine BB.starts_method ?_))
  k_with "eval ListComp" => (k_here; refine comp_here ?_)
  k_with "exec Assign cons ListComp" => (k_here; refine exec_here ?_)
  trivial
theorem rules63 : True := by
  k_with "FinA" => ((unfold LCg.FinA); intro «D'✝» «h'✝» «tk'✝» «F'✝» «N'✝» «o1'✝»; (try simp only [LCg.Off1, and_true] at «o1'✝»); (try rw [lst_eq] at «N'✝»); (try dsimp only))
  k_with "FinE" => ((unfold LCg.FinE); intro «D'✝» «h'✝» «tk'✝» «F'✝» «N'✝» «o1'✝»; (try simp only [LCg.Off1, and_true] at «o1'✝»); (try rw [lst_eq] at «N'✝»); (try dsimp only))
  k_with "call ref" => (k_here; refine call_here ?_)
  k_with "call ref" => (k_here; (with_reducible show wpAny _ _ (call (Value.ref 112) [Value.ref _]) _ _ _); k_dflt (refine' deck_specD ?qqzzB ?qqzzF ?qqzzX ?qqzzN ?qqzzT ?qqzzk ?qqzzd ?qqzzu ?qqzzL ?qqzzI ?qqzzn ?_; (case qqzzB => k_asm); (case qqzzF => k_asm); (case qqzzX => k_asm); (case qqzzN => k_asm); (case qqzzT => k_asm); (case qqzzk => first | exact rfl | assumption); (case qqzzd => ktr_room); (case qqzzu => ktr_units); (case qqzzL => assumption); (case qqzzI => assumption); (case qqzzn => omega)); intro «D'✝» «C'✝» «od'✝» «oc'✝» «h'✝» «tk'✝» «K'✝» «F'✝» «N'✝»; have «oD'✝» : @Ne Nat _ _ := «K'✝».offD _ (List.mem_cons_self ..); have «oC'✝» : @Ne Nat _ _ := «K'✝».offC _ (List.mem_cons_self ..); dsimp only at «oD'✝» «oC'✝»)
  k_with "call ref" => (k_here; (with_reducible show wpAny _ _ (call (Value.ref 119) [Value.ref _, Value.int _ _]) _ _ _); k_dflt (refine' draw_spec ?qqzzB ?qqzzF ?qqzzX ?qqzzN ?qqzzT ?qqzzk ?qqzzd ?qqzzu ?qqzzK ?qqzzm ?qqzzm2 ?_; (case qqzzB => k_asm); (case qqzzF => k_asm); (case qqzzX => k_asm); (case qqzzN => first | k_asm | exact rot (by assumption)); (case qqzzT => k_asm); (case qqzzk => first | exact rfl | assumption); (case qqzzd => ktr_room); (case qqzzu => ktr_units); (case qqzzK => first | assumption | exact Deck.push (by assumption) (by assumption) | exact Deck.upd1 (by assumption) | exact Deck.upd2 (by assumption) | exact Deck.updd (by assumption) | exact Deck.push (Deck.updd (by assumption)) (by assumption) | exact Deck.push (Deck.upd1 (by assumption)) (by assumption)); (case qqzzm => first | assumption | decide); (case qqzzm2 => first | assumption | decide)); intro «k'✝» «t'✝» «od'✝» «oc'✝» «h'✝» «tk'✝» «kl'✝» «kh'✝» «K'✝» «F'✝» «N'✝»)
  k_with "call ref" => (k_here; (with_reducible show wpAny _ _ (call (Value.ref 126) [Value.ref _, Value.ref _]) _ _ _); k_dflt (refine' pick_list ?qqzzB ?qqzzF ?qqzzX ?qqzzN ?qqzzT ?qqzzk ?qqzzd ?qqzzu ?qqzzK ?qqzzl ?qqzzm ?qqzzm2 ?qqzzb ?_; (case qqzzB => k_asm); (case qqzzF => k_asm); (case qqzzX => k_asm); (case qqzzN => (rename News _ _ _ _ => «nX✝»); exact rot «nX✝»); (case qqzzT => k_asm); (case qqzzk => first | exact rfl | assumption); (case qqzzd => ktr_room); (case qqzzu => ktr_units); (case qqzzK => first | exact Deck.push (by assumption) (by assumption) | exact Deck.push (Deck.updd (by assumption)) (by assumption) | exact Deck.push (Deck.upd1 (by assumption)) (by assumption)); (case qqzzl => exact List.mem_cons_self ..); (case qqzzm => simp); (case qqzzm2 => simp); (case qqzzb => rfl)); intro «b'✝» «t'✝» «od'✝» «oc'✝» «h'✝» «tk'✝» «hb'✝» «K'✝» «F'✝» «N'✝»)
  k_with "call ref" => (k_here; (with_reducible show wpAny _ _ (call (Value.ref 133) [Value.ref _]) _ _ _); k_dflt (refine' line_spec ?qqzzB ?qqzzF ?qqzzX ?qqzzN ?qqzzT ?qqzzk ?qqzzd ?qqzzu ?qqzzK ?_; (case qqzzB => k_asm); (case qqzzF => k_asm); (case qqzzX => k_asm); (case qqzzN => first | k_asm | exact rot (by assumption)); (case qqzzT => k_asm); (case qqzzk => first | exact rfl | assumption); (case qqzzd => ktr_room); (case qqzzu => ktr_units); (case qqzzK => first | assumption | exact Deck.push (by assumption) (by assumption) | exact Deck.upd1 (by assumption) | exact Deck.upd2 (by assumption) | exact Deck.updd (by assumption) | exact Deck.push (Deck.updd (by assumption)) (by assumption) | exact Deck.push (Deck.upd1 (by assumption)) (by assumption))); intro «b'✝» «t'✝» «od'✝» «oc'✝» «h'✝» «tk'✝» «hb'✝» «K'✝» «F'✝» «N'✝»)
  k_with "call ref" => (k_here; (with_reducible show wpAny _ _ (call (Value.ref 169) [Value.ref _]) _ _ _); k_dflt (refine' field_spec ?qqzzB ?qqzzF ?qqzzX ?qqzzN ?qqzzT ?qqzzk ?qqzzd ?qqzzu ?qqzzK ?_; (case qqzzB => k_asm); (case qqzzF => k_asm); (case qqzzX => k_asm); (case qqzzN => first | k_asm | exact rot (by assumption)); (case qqzzT => k_asm); (case qqzzk => first | exact rfl | assumption); (case qqzzd => ktr_room); (case qqzzu => ktr_units); (case qqzzK => first | assumption | exact Deck.push (by assumption) (by assumption) | exact Deck.upd1 (by assumption) | exact Deck.upd2 (by assumption) | exact Deck.updd (by assumption) | exact Deck.push (Deck.updd (by assumption)) (by assumption) | exact Deck.push (Deck.upd1 (by assumption)) (by assumption))); intro «b'✝» «t'✝» «od'✝» «oc'✝» «h'✝» «tk'✝» «hb'✝» «K'✝» «F'✝» «N'✝»)
  k_with "binaryOp Add bytes bytes" => (k_here; (with_reducible show wpAny _ _ (binaryOp Operator.Add (Value.bytes _ _) (Value.bytes _ _)) _ _ _); refine KBy.add_bytes (by first | omega | (simp only [Array.size_append]; omega) | (have «zzs✝» := menu_end_size (by assumption); simp only [Array.size_append]; omega)) ?_; intro _ _)
  k_with "call ref" => (k_here; (with_reducible show wpAny _ _ (call (Value.ref 85) [Value.bytes _ _]) _ _ _); k_dflt (refine' rows_spec ?qqzzB ?qqzzF ?qqzzX ?qqzzN ?qqzzT ?qqzzk ?qqzzd ?qqzzu ?qqzzz ?qqzzn ?_; (case qqzzB => k_asm); (case qqzzF => k_asm); (case qqzzX => k_asm); (case qqzzN => k_asm); (case qqzzT => k_asm); (case qqzzk => first | exact rfl | assumption); (case qqzzd => ktr_room); (case qqzzu => ktr_units); (case qqzzz => assumption); (case qqzzn => assumption)); intro «D'✝» «ys'✝» «k'✝» «tl'✝» «h'✝» «tk'✝» «R'✝» «S'✝» «F'✝» «N'✝»)
  k_with "call ref" => (k_here; (with_reducible show wpAny _ _ (call (Value.ref 90) [Value.bytes _ _]) _ _ _); k_dflt (refine' miss_spec ?qqzzB ?qqzzF ?qqzzX ?qqzzN ?qqzzT ?qqzzk ?qqzzd ?qqzzu ?qqzzz ?qqzzn ?_; (case qqzzB => k_asm); (case qqzzF => k_asm); (case qqzzX => k_asm); (case qqzzN => k_asm); (case qqzzT => k_asm); (case qqzzk => first | exact rfl | assumption); (case qqzzd => ktr_room); (case qqzzu => ktr_units); (case qqzzz => assumption); (case qqzzn => assumption)); intro «D'✝» «ys'✝» «k'✝» «tl'✝» «h'✝» «tk'✝» «R'✝» «S'✝» «F'✝» «N'✝»)
  k_with "call ref" => (k_here; (with_reducible show wpAny _ _ (call (Value.ref 145) [Value.ref _]) _ _ _); k_dflt (refine' lrows_spec ?qqzzB ?qqzzF ?qqzzX ?qqzzN ?qqzzT ?qqzzk ?qqzzd ?qqzzu ?qqzzl ?qqzzb ?qqzzz ?qqzzn ?_; (case qqzzB => k_asm); (case qqzzF => k_asm); (case qqzzX => k_asm); (case qqzzN => k_asm); (case qqzzT => k_asm); (case qqzzk => first | exact rfl | assumption); (case qqzzd => ktr_room); (case qqzzu => ktr_units); (case qqzzl => first | k_mem | assumption | (refine List.mem_cons_of_mem _ ?_; assumption)); (case qqzzb => assumption); (case qqzzz => assumption); (case qqzzn => omega)); intro «D'✝» «ys'✝» «k'✝» «tl'✝» «h'✝» «tk'✝» «R'✝» «S'✝» «F'✝» «N'✝»)
  k_with "call ref" => (k_here; (with_reducible show wpAny _ _ (call (Value.ref 150) [Value.ref _]) _ _ _); k_dflt (refine' lmiss_spec ?qqzzB ?qqzzF ?qqzzX ?qqzzN ?qqzzT ?qqzzk ?qqzzd ?qqzzu ?qqzzl ?qqzzb ?qqzzz ?qqzzn ?_; (case qqzzB => k_asm); (case qqzzF => k_asm); (case qqzzX => k_asm); (case qqzzN => k_asm); (case qqzzT => k_asm); (case qqzzk => first | exact rfl | assumption); (case qqzzd => ktr_room); (case qqzzu => ktr_units); (case qqzzl => first | k_mem | assumption | (refine List.mem_cons_of_mem _ ?_; assumption)); (case qqzzb => assumption); (case qqzzz => assumption); (case qqzzn => omega)); intro «D'✝» «ys'✝» «k'✝» «tl'✝» «h'✝» «tk'✝» «R'✝» «S'✝» «F'✝» «N'✝»)
  k_with "call type:list" => (k_here; (with_reducible show wpAny _ _ (call (Value.type _) [Value.ref _]) _ _ _); k_dflt (refine' list_copyB ?qqzzF ?qqzzN ?qqzzb ?qqzzB ?qqzzz ?_; (case qqzzF => k_asm); (case qqzzN => k_asm); (case qqzzb => assumption); (case qqzzB => assumption); (case qqzzz => assumption)); intro «D'✝» «c'✝» «h'✝» «F'✝» «N'✝» «l1'✝»; (try k_lt «l1'✝»))
  trivial
local macro_rules | `(tactic| walk_at "call ref") => `(tactic| (k_here; (with_reducible show wpAny _ _ (call (Value.ref 162) [Value.bytes _ _]) _ _ _); k_dflt (refine' lrange_spec ?zzB ?zzF ?zzX ?zzN ?zzT ?zzk ?zzd ?zzu ?zzz ?zzrn ?zzri; (case zzB => k_asm); (case zzF => k_asm); (case zzX => k_asm); (case zzN => k_asm); (case zzT => k_asm); (case zzk => first | exact rfl | assumption); (case zzd => ktr_room); (case zzu => ktr_units); (case zzz => exact IsField.size (by assumption))); (case' zzrn => intro h' tk' hD' F' N'); (case' zzri => intro D' x' y' tx' ty' h' tk' hD' F' N')))
local macro_rules | `(tactic| walk_at "call ref") => `(tactic| (k_here; (with_reducible show wpAny _ _ (call (Value.ref 176) [Value.bytes _ _, Value.int _ _]) _ _ _); (rename rangeCode _ = _ => hZ); k_dflt (refine' heard_spec ?zzB ?zzF ?zzX ?zzN ?zzT ?zzk ?zzXB ?zzTB ?zzd ?zzu ?zzz ?zzr1 ?zzr2; (case zzB => k_asm); (case zzF => k_asm); (case zzX => k_asm); (case zzN => k_asm); (case zzT => k_asm); (case zzk => first | exact rfl | assumption); (case zzXB => assumption); (case zzTB => assumption); (case zzd => ktr_room); (case zzu => ktr_units); (case zzz => exact IsField.size (by assumption))); (case' zzr1 => (intro D' x' y' tx' ty' h' tk' hD' F' N'; rw [hZ] at hD'; cases hD'; (try clear hZ))); (case' zzr2 => (intro h' tk' hD' F' N'; rw [hZ] at hD'; cases hD'; (try clear hZ)))))
theorem rules64 : True := by
  k_with "UnrEnd" => (k_here; (rename News _ _ _ _ => «nX✝»); (rename Deck _ _ _ _ _ _ => «kX✝»); refine unr_endZ «kX✝» (by assumption) «nX✝» (by k_mem) (by k_mem) (by k_mem) (by k_mem) (by k_ne) ?_)
  k_with "compareOp NotEq ref ref" => (k_here; (rename News _ _ _ _ => «nX✝»); (with_reducible refine ne_pair «nX✝» (by k_mem) (by k_mem) ?_ ?_); (first | units_room | k_units); skip)
  trivial
set_option maxHeartbeats 8000000 in
theorem law_holds : PySem.Challenge.rw_nt0003_01.Holds := hd (by
  k_go0
  all_goals try k_fold
  k_steps
  (unfold ExecHere; k_dflt (refine' LCg.Assign_ListComp_U (F₀ := ?qqzzla) ?qqzzlb ?qqzzlc ?qqzzld ?qqzzle ?qqzzlf ?qqzzlg ?qqzzlh ?qqzzli ?qqzzlj ?_; (case qqzzla => k_asm); (case qqzzlb => rfl); (case qqzzlc => with_unfolding_all rfl); (case qqzzld => rfl); (case qqzzle => decide); (case qqzzlf => rfl); (case qqzzlg => decide); (case qqzzlh => rfl); (case qqzzli => rfl); (case qqzzlj => rfl)))
  refine src_here ?_
  k_steps
  unfold SrcHere
  rename IsRange _ _ _ _ _ _ _ _ => hrg
  rename Deck _ _ _ _ _ _ => K1
  rename Obj.data _ = Data.cell (some _) => hcellD
  rename Fr _ _ _ _ => lF
  rename News _ _ _ _ => lN
  refine range5 rfl lF lN hrg (by assumption) (by assumption) fun n g hn1 hn5 => ?_
  refine compRest_ind (LinesInv _ _ _ _) ?turnL ?finL _ 0 [] _ (Nat.zero_add _) ⟨_, _, [], rfl, K1, .nil, rfl, fun _ h => nomatch h⟩
  case turnL =>
    rintro i ys nw v I oI C1 oC D1 m₂ h tk E' hi ⟨od, oc, bs, rfl, K2, hB, hlen, hgood⟩ hv hC hx F1 N1 off ne
    replace N1 := perm3 N1
    have K3 := K2.ext3 (oI := oI) (oC := oC) (oD := LCg.lst ys) off
    clear K2 K1 lF lN
    iterate 9 walk1
    k_unfold
    rename Fr _ _ _ _ => F2
    rename News _ _ _ _ => N2
    rename Deck _ _ _ _ _ _ => K4
    rename Good _ => hG
    exact LCg.CompEnd.intro F2 N2 ((_, _) :: (_, _) :: [(_, _)]) unperm3 ⟨off.1, off.2.1, off.2.2⟩ trivial ⟨_, _, bs ++ [_], rfl, K4.less3, BAre_append1 hB _ _, by simp [hlen], fun c hc => by
      rcases List.mem_append.mp hc with hc | hc
      · exact hgood c hc
      · rw [List.mem_singleton.mp hc]; exact hG⟩
  case finL =>
    rintro ys nw ⟨od, oc, bs, rfl, K2, hB, hlen, hgood⟩
    clear K1 lF lN hrg
    walk_at "FinA"
    rename Fr _ _ _ _ => F1
    rename News _ _ _ _ => N1
    rename _ ∧ _ => o1
    have K3 := K2.pushN (o := listOf ys.toArray ys.length) o1.1 o1.2.1
    clear K2
    replace N1 := rot N1
    k_steps
    rename News _ _ _ _ => nJ
    rename _ ∈ menu _ => hb1
    have hs1 := menu_mark_size hb1
    have hJ := Nat.le_trans (join_small (z := 200) fun p hp => (hgood p hp).size) (Nat.mul_le_mul_left (200 + 1) (show bs.length ≤ 5 by omega))
    refine BB.join (z := 200) (n := 5) (isList_mem nJ (by k_mem)) hB (by decide) (fun p hp => (hgood p hp).size) (by omega) (by decide) fun t' k' => ?_
    k_steps
    rename _ ∈ menu _ => hb3
    have hO := octets hlen hn1 hn5 hgood (menu_mark hb1) (menu_end hb3)
    have hO1 := hO.size
    have hO2 := hO.lines
    clear hs1 hJ hb1 hb3
    (unfold ExecHere; k_dflt (refine' assign_comp3 (F₀ := ?qqzza) ?qqzzb ?qqzzc ?qqzzd ?qqzze ?qqzzf ?qqzzg ?qqzzh ?qqzzi ?qqzzj ?qqzzk ?qqzzl ?qqzzm ?qqzzn ?qqzzo ?qqzzp ?_; (case qqzza => k_asm); (case qqzzb => rfl); (case qqzzc => with_unfolding_all rfl); (case qqzzd => with_unfolding_all rfl); (case qqzze => decide); (case qqzzf => rfl); (case qqzzg => decide); (case qqzzh => rfl); (case qqzzi => rfl); (case qqzzj => rfl); (case qqzzk => decide); (case qqzzl => decide); (case qqzzm => decide); (case qqzzn => rfl); (case qqzzo => rfl); (case qqzzp => intro _; rfl)))
    refine src_here ?_
    k_steps
    unfold SrcHere
    rename Fr _ _ _ _ => F3
    rename News _ _ _ _ => N3
    rename RowsIn _ _ _ => R1
    rename ∀ p ∈ _, p ∈ _ => S1
    rw [hO.told] at R1
    have R1' := rows_cons N3 R1
    have R3 := rows3 (bs := bs) fun b hb => Nat.le_trans (hgood b hb).size (by decide)
    refine ⟨_, _, _, _, Copied _ (rowsAt rowB 0 bs), rfl, rfl, F3, N3, .head _, ?size3, ⟨fun _ h => h, .nil⟩, fun i ys nw h => h.1 _ (.head _), ?turn3, ?fin3⟩
    case size3 => exact rows_le R1 (by omega)
    case turn3 =>
      rintro i zs nw v hI hv
      obtain ⟨r, hr, hmem, htake⟩ := rows_at R1' hv
      obtain ⟨T, F, t, u, vs, k, n, fs, b, rfl, rfl, hT, hF, hB2⟩ := row3 hr (R3 _ hmem).1
      refine ⟨T, _, _, _, rfl, hI.1 _ hT, ?_⟩
      intro I oI C oC D m₂ h tk E' hC hx1 hx2 hx3 F4 N4 off ne
      have hF2 : (F, listOf vs.toArray k) ∈ (I, oI) :: (C, oC) :: (D, LCg.lst zs) :: nw := .tail _ (.tail _ (.tail _ (hI.1 _ hF)))
      have hlen3 : fs.length ≤ 3000 := (R3 _ hmem).2
      clear F3 N3
      repeat' (first | walk1 | (dsimp only; walk1))
      rename Fr _ _ _ _ => F5
      rename News _ _ _ _ => N5
      exact copy_end F5 N5 off ⟨by k_ne, by k_ne, by k_ne⟩ ⟨by k_ne, by k_ne, by k_ne⟩ hI htake (.three (.head _) (.tail _ (.head _)) hB2) trivial
    case fin3 =>
      rintro zs nw hI
      have R2 := copy_all R1' hI
      have S2 := hI.1
      have hmL : (_, listOf ys.toArray ys.length) ∈ nw := S2 _ (.tail _ (S1 _ (.tail _ (.tail _ (.tail _ (.tail _ (.head _)))))))
      have hsz : ∀ p ∈ bs, p.size ≤ 2000 := fun p hp => Nat.le_trans (hgood p hp).size (by decide)
      clear R1 R1' hI F3 N3
      walk_at "FinA"
      have hmL2 := fun q => List.mem_cons_of_mem q hmL
      repeat' (first | ((with_reducible refine Mine.Kont.use (by with_reducible assumption) ?_); (try dsimp only)) | (k_unfold; (try dsimp only)) | walk1 | (dsimp only; walk1))
      rename RowsIn _ _ _ => R4
      rename ∀ p ∈ _, p ∈ _ => S3
      rename News _ _ _ _ => N4
      refine ne_rows N4 N4 (.tail _ (S3 _ (.head _))) (.head _) (R2.mono fun p hp => .tail _ (S3 _ (.tail _ hp))) (R4.mono fun p hp => .tail _ hp) (by first | units_room | k_units | decide) ?_
      have hmL3 := up_tail N4 S3 hmL
      have hmD := up_all N4 S3 S2 S1
      clear R2 R4 R3 S1 S2 S3 hmL hmL2
      k_steps
      (unfold CompHere; k_dflt (refine' LCp.ListComp_P (F₀ := ?qqzza) ?qqzzb ?qqzzc ?qqzzd ?qqzze ?qqzzf ?qqzzg ?qqzzh ?_; (case qqzza => k_asm); (case qqzzb => with_unfolding_all rfl); (case qqzzc => decide); (case qqzzd => rfl); (case qqzze => decide); (case qqzzf => rfl); (case qqzzg => rfl); (case qqzzh => decide)))
      refine src_here ?_
      k_steps
      unfold SrcHere
      rename Fr _ _ _ _ => F6
      rename RowsIn _ _ _ => R5
      rename ∀ p ∈ _, p ∈ _ => S5
      rename News _ _ _ _ => N6
      rw [hO.miss] at R5
      have R5' := rows_cons N6 R5
      have R6 := rows2 (bs := bs) hsz
      refine LCp.SrcLP.ledger rfl F6 N6 (.head _) (rows_le R5 (by omega)) fun g => ?_
      refine compRestP_ind (Copied _ (rowsAt lmissB 0 bs)) ?turn2 ?fin2 _ 0 [] _ (Nat.zero_add _) ⟨fun _ h => h, .nil⟩
      case turn2 =>
        rintro i zs nw v hi hI hv
        obtain ⟨r, hr, hmem, htake⟩ := rows_at R5' hv
        obtain ⟨T, F, t, vs, k, n, fs, rfl, rfl, hT, hF, hB2⟩ := row2 hr (R6 _ hmem).1
        refine ⟨T, _, _, rfl, hI.1 _ hT, ?_⟩
        intro I oI C oC D m₂ h tk E' hC hx1 hx2 F4 N4 off ne
        have hF2 : (F, listOf vs.toArray k) ∈ (I, oI) :: (C, oC) :: (D, LCg.lst zs) :: nw := .tail _ (.tail _ (.tail _ (hI.1 _ hF)))
        have hlen3 : fs.length ≤ 3000 := (R6 _ hmem).2
        clear F6 N6
        repeat' (first | walk1 | (dsimp only; walk1))
        rename Fr _ _ _ _ => F5
        rename News _ _ _ _ => N5
        exact copy_end F5 N5 off ⟨by k_ne, by k_ne, by k_ne⟩ ⟨by k_ne, by k_ne, by k_ne⟩ hI htake (.two (.head _) (.tail _ (.head _)) hB2) (.inr ⟨_, .tail _ (.tail _ (hI.1 _ (.head _))), rfl, _, rfl⟩)
      case fin2 =>
        rintro zs nw hI
        have R2 := copy_all R5' hI
        have S6 := hI.1
        have hmL4 := S6 _ (.tail _ (S5 _ hmL3))
        clear R5 R5' hI F6 N6
        walk_at "FinE"
        have hmL5 := fun q => List.mem_cons_of_mem q hmL4
        repeat' (first | ((with_reducible refine Mine.Kont.use (by with_reducible assumption) ?_); (try dsimp only)) | (k_unfold; (try dsimp only)) | walk1 | (dsimp only; walk1))
        rename RowsIn _ _ _ => R7
        rename ∀ p ∈ _, p ∈ _ => S7
        rename News _ _ _ _ => N7
        refine ne_rows N7 N7 (.tail _ (S7 _ (.head _))) (.head _) (R2.mono fun p hp => .tail _ (S7 _ (.tail _ hp))) (R7.mono fun p hp => .tail _ hp) (by first | units_room | k_units | decide) ?_
        have N8 := cut_down N7 S7 S6 S5 hmD
        rename Deck _ _ _ _ _ _ => K8
        have K9 := K8.drop1.drop1.drop1
        have o9 := K9.offD _ (.head _)
        have o9' := K9.offC _ (.head _)
        clear N7 S7 S6 S5 hmD K8 R2 R7 R6 hmL3 hmL4 hmL5 hO hO1 hO2 hsz hgood hlen hn1 hn5
        k_steps
        iterate 6
          all_goals (try unfold CallHere)
          all_goals (try walk_at "call ref")
          all_goals (try unfold CallHere)
          all_goals (try k_steps))
end
end Mine
theorem PySem.Challenge.cw_nt0003_01_holds : PySem.Challenge.rw_nt0003_01.Holds :=
  Mine.law_holds
