import PyProof.Rows.All
import Wide.All
import OpenK.AllK
import Wide.FinOn
import PySem.Challenge.RW_np0269_01
open PySem PySem.W PyProof.Rows PySem.Calls
set_option Elab.async false
set_option maxRecDepth 100000
set_option maxHeartbeats 8000000
set_option linter.unusedVariables false
set_option linter.unusedSimpArgs false
set_option compiler.extract_closed false
section
namespace Mine
open_top hd for PySem.Challenge.rw_np0269_01
end Mine
end
section
namespace Mine
theorem fmod_in (a : Int) {b : Int} (h : 0 < b) : 0 ≤ a.fmod b ∧ a.fmod b < b := ⟨Int.fmod_nonneg_of_pos a h, Int.fmod_lt_of_pos a h⟩
theorem news_sub {h₀ h : Heap} {L : Addr} {l l' : List (Addr × Obj)} (N : News h₀ L h l) (hs : ∀ p ∈ l', p ∈ l) : News h₀ L h l' := fun p hp => N p (hs p hp)

theorem room0 {dp a n : Nat} (h : dp + a < n) : dp < n := Nat.lt_of_le_of_lt (Nat.le_add_right _ _) h
theorem room1 {dp b c n : Nat} (h : dp + (c + (1 + b)) < n) : dp + 1 + b < n := by
  rw [Nat.add_assoc]; exact Nat.lt_of_le_of_lt (Nat.add_le_add_left (Nat.le_add_left _ _) _) h
theorem roomu {dp b c n : Nat} (h : dp + (c + (3 + b)) < n) : dp + 3 + b < n := by
  rw [Nat.add_assoc]; exact Nat.lt_of_le_of_lt (Nat.add_le_add_left (Nat.le_add_left _ _) _) h
theorem room2 {dp b n : Nat} (h : dp + (b + 2) < n) : dp + 1 + 1 < n := by
  rw [Nat.add_assoc]; exact Nat.lt_of_le_of_lt (Nat.add_le_add_left (Nat.le_add_left _ _) _) h
theorem room3 {dp b n : Nat} (h : dp + (b + 3) < n) : dp + 1 + 1 + 1 < n := by
  rw [Nat.add_assoc, Nat.add_assoc]; exact Nat.lt_of_le_of_lt (Nat.add_le_add_left (Nat.le_add_left _ _) _) h
/-- where the walk is to stop -/
def Stop (P : Prop) : Prop := P
theorem Stop.go {P : Prop} (h : Stop P) : P := h
theorem Stop.of {P : Prop} (h : P) : Stop P := h
inductive Stops (n : Nat) : Prop | mk
theorem Stop.at (n : Nat) {P : Prop} (_ : Stops n) (h : Stop P) : P := h
theorem go_ref {M : Model} {A : Around} {E : Value → Shared → Prop} {s : Shared} {Q : Value → Shared → Prop} {n : Nat} {pos : List Value} {kw : List (Str × Value)} (_ : Stops n) (h : Stop (wpAny M A (call (.ref n) pos kw) Q E s)) : wpAny M A (call (.ref n) pos kw) Q E s := h
theorem go_item {M : Model} {A : Around} {E : Value → Shared → Prop} {s : Shared} {Q : Value → Shared → Prop} {n : Nat} {a b : PySem.Expr} {v : Value} (_ : Stops n) (h : Stop (wpAny M A (subscriptTail a b (.ref n) v) Q E s)) : wpAny M A (subscriptTail a b (.ref n) v) Q E s := h
theorem go_if {M : Model} {A : Around} {E : Value → Shared → Prop} {s : Shared} {Q : Flow → Shared → Prop} {a : PySem.Expr} {b c} {d : Pos} {x y} {z} {env : Env} (_ : Stops 2) (h : Stop (wpAny M A (exec (.If (.Compare a b c d) x y z) env) Q E s)) : wpAny M A (exec (.If (.Compare a b c d) x y z) env) Q E s := h
theorem go_cmp {M : Model} {A : Around} {E : Value → Shared → Prop} {s : Shared} {Q : Value → Shared → Prop} {a b c} {x y} {z} {env : Env} (_ : Stops 7) (h : Stop (wpAny M A (eval (.Compare (.Constant a b c) x y z) env) Q E s)) : wpAny M A (eval (.Compare (.Constant a b c) x y z) env) Q E s := h
theorem at_item {M : Model} {A : Around} {E : Value → Shared → Prop} {s : Shared} {Q : Value → Shared → Prop} {a b : PySem.Expr} {l : Addr} {k : Int} {u : Tok} (h : wpAny M A (subscriptTail a b (.ref l) (.int k u)) Q E s) : wpAny M A (subscriptTail a b (.ref l) (.int k u)) Q E s := h
theorem at_len {M : Model} {A : Around} {E : Value → Shared → Prop} {s : Shared} {Q : Value → Shared → Prop} {l : Addr} (h : wpAny M A (call (.builtin "len") [.ref l]) Q E s) : wpAny M A (call (.builtin "len") [.ref l]) Q E s := h
theorem at_name {M : Model} {A : Around} {E : Value → Shared → Prop} {s : Shared} {Q : Value → Shared → Prop} {scope : Scope} {cl : List (Str × Addr)} {C : Addr} {env : Env} {x : Str} {pos : Pos} (h : wpAny M A (eval (.Name x pos) (compEnvC scope cl C env)) Q E s) : wpAny M A (eval (.Name x pos) (compEnvC scope cl C env)) Q E s := h
theorem roomG {P : Prop} (_ : Stops 12) (h : P) : P := h
theorem call0 {M : Model} {A : Around} {E : Value → Shared → Prop} {s : Shared} {Q : Value → Shared → Prop} {env : Env} {pos : Pos} {f : Value} {first : List Value} {K : Frag} {g : Heap} {L : Addr} {m : Str → Option Value} (X : K.In g) (F : Fr g L s.heap m) (hk : keepIn K f = true) (h : wpAny M A (call f (first ++ [])) Q E s) : wpAny M A (callWith pos f first (backTo pos (starEach [] env)) []) Q E s := callWith_K0 (X.keeps F.keep) hk h
theorem memN {q : Addr × Obj} {l : List (Addr × Obj)} (h : q ∈ l) : q ∈ l := h

/-- a value of the reader: None or an int -/
def vD : Option Int → Dat
  | none => .none
  | some i => .int i
def rowD (r : List (Option Int)) : Dat := .list (r.map vD)

theorem row_in {l9 : List (Addr × Obj)} {v : Value} {row : List (Option Int)} (h : DatIn l9 v (rowD row)) : ∃ a us n, v = .ref a ∧ (a, listOf us.toArray n) ∈ l9 ∧ DatAll l9 us (row.map vD) := by
  unfold rowD at h
  cases h with
  | list hm r => exact ⟨_, _, _, rfl, hm, r⟩
theorem v_none {l9 : List (Addr × Obj)} {v : Value} (h : DatIn l9 v (vD none)) : v = .none := by
  unfold vD at h; cases h; rfl
theorem v_some {l9 : List (Addr × Obj)} {v : Value} {i : Int} (h : DatIn l9 v (vD (some i))) : ∃ t, v = .int i t := by
  unfold vD at h; cases h; exact ⟨_, rfl⟩

section
variable {prog : Program} {w : World} {A : Around} {E : Value → Shared → Prop} {s : Shared} {h₀ : Heap} {L l : Addr}
theorem my_item {value slice : PySem.Expr} {news : List (Addr × Obj)} {vs : List Value} {n : Nat} {k : Int} {u : Tok} {v : Value} {Q : Value → Shared → Prop}
    (N : News h₀ L s.heap news) (hm : (l, listOf vs.toArray n) ∈ news) (h0 : 0 ≤ k) (hhi : k < 2 ^ 63) (hx : vs[k.toNat]? = some v) (h : Q v s)
    (hs : subscripted slice false (.ref l) (.int k u) = operate [.ref l, .int k u] (getItem (.ref l) (.int k u))) :
    wpAny (model prog w) A (subscriptTail value slice (.ref l) (.int k u)) Q E s := by
  have hl : s.heap.IsList l vs.toArray := ⟨_, (N _ hm).1, rfl, n, rfl⟩
  exact tail_any hl.typeIs slot_list_getitem.lookup (wpAny_getItem_list hl h0 hhi (by simpa using hx) h) hs
theorem my_len {news : List (Addr × Obj)} {vs : List Value} {n : Nat} {Q : Value → Shared → Prop}
    (N : News h₀ L s.heap news) (hm : (l, listOf vs.toArray n) ∈ news) (hfit : (vs.length : Int) < 2 ^ 63) (h : Q (.int (vs.length : Int) (s.toks + 1)) { s with toks := s.toks + 1 + 1 }) :
    wpAny (model prog w) A (call (.builtin "len") [.ref l]) Q E s := by
  have hl : s.heap.IsList l vs.toArray := ⟨_, (N _ hm).1, rfl, n, rfl⟩
  have e : vs.toArray.size = vs.length := by rw [List.size_toArray]
  exact len_list hl (by rw [e]; exact hfit) (by rw [e]; exact h)
theorem same_bool {Q : Value → Shared → Prop} {c : Bool} (h : Q (.bool false) s) : wpAny (model prog w) A (compareOp .NotEq (.bool c) (.bool c)) Q E s := ne_bool (by simpa using h)
theorem same_str {Q : Value → Shared → Prop} {x : Str} {t u : Tok} (h : Q (.bool false) s) : wpAny (model prog w) A (compareOp .NotEq (.str x t) (.str x u)) Q E s := ne_str (by simpa using h)
theorem same_bytes {Q : Value → Shared → Prop} {b : Array UInt8} {t u : Tok} (h : Q (.bool false) s) : wpAny (model prog w) A (compareOp .NotEq (.bytes b t) (.bytes b u)) Q E s := ne_bytes (by simpa using h)
theorem vD_ok (n : Nat) (x : Option Int) : kqdOk n (vD x) = true := by cases x <;> (cases n <;> rfl)
theorem vDs_ok (n : Nat) (r : List (Option Int)) : ∀ d ∈ r.map vD, kqdOk n d = true := by
  intro d hd; obtain ⟨x, _, rfl⟩ := List.mem_map.mp hd; exact vD_ok n x
theorem rowD_ok (n : Nat) (r : List (Option Int)) : kqdOk (n + 1) (rowD r) = true := by
  unfold rowD; simp only [kqdOk, List.all_eq_true]; exact vDs_ok n r
theorem rowsD_ok (n : Nat) (r : List (List (Option Int))) : ∀ d ∈ r.map rowD, kqdOk (n + 1) d = true := by
  intro d hd; obtain ⟨x, _, rfl⟩ := List.mem_map.mp hd; exact rowD_ok n x
open Classical in
theorem my_eq_nil {news l9 : List (Addr × Obj)} {us : List Value} {ds : List Dat} {n k' : Nat} {l' : Addr} {Q : Value → Shared → Prop} (N : News h₀ L s.heap ((l', listOf #[] k') :: news)) (hm : (l, listOf us.toArray n) ∈ news) (hD : DatAll l9 us ds) (hs : ∀ p ∈ l9, p ∈ news)
    (hk : ∀ d ∈ ds, kqdOk 8 d = true) (hu : A.units + 64 < cLine) (h : Q (.bool (decide (ds = []))) s) : wpAny (model prog w) A (compareOp .Eq (.ref l) (.ref l')) Q E s :=
  kqd_eq (es := []) N (List.mem_cons_of_mem _ hm) rfl rfl hD (fun p hp => List.mem_cons_of_mem _ (hs p hp)) (.head _) rfl rfl (xs := us) (ys := []) DatAll.nil (n₂ := []) (fun _ h => nomatch h) hk (fun _ h => nomatch h) hu (by simpa using h)
open Classical in
theorem my_ne_nil {news l9 : List (Addr × Obj)} {us : List Value} {ds : List Dat} {n k' : Nat} {l' : Addr} {Q : Value → Shared → Prop} (N : News h₀ L s.heap ((l', listOf #[] k') :: news)) (hm : (l, listOf us.toArray n) ∈ news) (hD : DatAll l9 us ds) (hs : ∀ p ∈ l9, p ∈ news)
    (hk : ∀ d ∈ ds, kqdOk 8 d = true) (hu : A.units + 64 < cLine) (h : Q (.bool (!decide (ds = []))) s) : wpAny (model prog w) A (compareOp .NotEq (.ref l) (.ref l')) Q E s :=
  kqd_ne (es := []) N (List.mem_cons_of_mem _ hm) rfl rfl hD (fun p hp => List.mem_cons_of_mem _ (hs p hp)) (.head _) rfl rfl (xs := us) (ys := []) DatAll.nil (n₂ := []) (fun _ h => nomatch h) hk (fun _ h => nomatch h) hu (by simpa using h)
end
end Mine
end
section
namespace Mine
open PySem.Builtin
/-! facts of the two methods -/
theorem slot_split : Slot "bytes" "split" "bytes.split" :=
  .of (owner := "bytes") (n := "split") (by rw [typeLookup_type, builtinLookup_eq_fast]; kernel_rfl) (by decide +kernel) (by decide +kernel) (by decide +kernel)
    (by first | exact .inl (by decide +kernel) | exact .inr (by decide +kernel)) (by rw [isSubtype_type]; kernel_rfl)
theorem type_split : typeOf (.builtin "bytes.split") = pure (.type "method_descriptor") := by show builtinType _ = _; rw [builtinType_eq_fast]; kernel_rfl
theorem entry_split : entryFor table "bytes.split" = some Builtin.«bytes.split» := entryFor_of_tree (by kernel_rfl)
theorem args_split (a b : Value) : argsOk "bytes.split" ⟨[a, b], []⟩ := by
  unfold argsOk; rw [signature?_of (id := "bytes.split") (n := ['t', 'i', 'l', 'p', 's']) (o := ['s', 'e', 't', 'y', 'b']) (by kernel_rfl) FB.owner_bytes]; kernel_rfl
theorem slot_join : Slot "bytes" "join" "bytes.join" :=
  .of (owner := "bytes") (n := "join") (by rw [typeLookup_type, builtinLookup_eq_fast]; kernel_rfl) (by decide +kernel) (by decide +kernel) (by decide +kernel)
    (by first | exact .inl (by decide +kernel) | exact .inr (by decide +kernel)) (by rw [isSubtype_type]; kernel_rfl)
theorem type_join : typeOf (.builtin "bytes.join") = pure (.type "method_descriptor") := by show builtinType _ = _; rw [builtinType_eq_fast]; kernel_rfl
theorem entry_join : entryFor table "bytes.join" = some Builtin.«bytes.join» := entryFor_of_tree (by kernel_rfl)
theorem args_join (a b : Value) : argsOk "bytes.join" ⟨[a, b], []⟩ := by
  unfold argsOk; rw [signature?_of (id := "bytes.join") (n := ['n', 'i', 'o', 'j']) (o := ['s', 'e', 't', 'y', 'b']) (by kernel_rfl) FB.owner_bytes]; kernel_rfl
theorem bind_split (v : Value) : Bytes.bindOptional "bytes.split" "split" ["sep", "maxsplit"] [v] [] = pure [some v, none] := by kernel_rfl

/-- bytes values, their octets -/
inductive BytesAre : List Value → List (Array UInt8) → Prop
  | nil : BytesAre [] []
  | cons (b : Array UInt8) (t : Tok) {vs bs} : BytesAre vs bs → BytesAre (.bytes b t :: vs) (b :: bs)
theorem BytesAre.length {vs bs} (h : BytesAre vs bs) : vs.length = bs.length := by
  induction h with
  | nil => rfl
  | cons _ _ _ ih => simp [ih]
theorem BytesAre.append {vs ws bs cs} (h : BytesAre vs bs) (k : BytesAre ws cs) : BytesAre (vs ++ ws) (bs ++ cs) := by
  induction h with
  | nil => exact k
  | cons b t _ ih => exact .cons b t ih
theorem BytesAre.at {vs bs} (h : BytesAre vs bs) : ∀ (i : Nat) (v : Value), vs[i]? = some v → ∃ b t, v = .bytes b t ∧ bs[i]? = some b := by
  induction h with
  | nil => intro i v h; simp at h
  | cons b t _ ih =>
    intro i v h
    cases i with
    | zero => simp at h; subst h; exact ⟨b, t, rfl, rfl⟩
    | succ i => simpa using ih i v (by simpa using h)
theorem BytesAre.take {vs bs} (h : BytesAre vs bs) : ∀ k, BytesAre (vs.take k) (bs.take k) := by
  induction h with
  | nil => intro k; simpa using BytesAre.nil
  | cons b t _ ih => intro k; cases k with
    | zero => exact .nil
    | succ k => exact .cons b t (ih k)

section
variable {prog : Program} {w : World} {A : Around} {E : Value → Shared → Prop} {s : Shared} {Q : Value → Shared → Prop}
theorem mapM_new {Q : List Value → Shared → Prop} : ∀ (bs : List (Array UInt8)) (s : Shared), (∀ b ∈ bs, b.size ≤ sizeLine) → (∀ vs k, BytesAre vs bs → Q vs { s with toks := k }) →
    wpAny (model prog w) A (bs.mapM (Bytes.Kind.new .bytes)) Q E s := by
  intro bs
  induction bs generalizing Q with
  | nil => intro s _ h; rw [List.mapM_nil]; exact wpAny_pure (h [] s.toks .nil)
  | cons b bs ih =>
    intro s hb h
    rw [List.mapM_cons]
    refine wpAny_bind (wpAny_mkBytes ?_ (hb b (.head _)))
    refine wpAny_bind (ih _ (fun c hc => hb c (.tail _ hc)) fun vs k hv => ?_)
    exact wpAny_pure (h _ k (.cons b _ hv))

theorem between_all (b : Array UInt8) (w : Nat) : ∀ places : List Nat, (∀ c ∈ Bytes.between b w places, c.size ≤ b.size) ∧ (Bytes.between b w places).length = places.length + 1 := by
  intro places
  have key : ∀ (ps : List Nat) (parts : Array (Array UInt8)) (last : Nat), (∀ c ∈ parts.toList, c.size ≤ b.size) →
      (∀ c ∈ (ps.foldl (fun (x : Array (Array UInt8) × Nat) p => (x.1.push (b.extract x.2 p), p + w)) (parts, last)).1.toList, c.size ≤ b.size) ∧
      (ps.foldl (fun (x : Array (Array UInt8) × Nat) p => (x.1.push (b.extract x.2 p), p + w)) (parts, last)).1.size = parts.size + ps.length := by
    intro ps
    induction ps with
    | nil => intro parts last h; exact ⟨h, rfl⟩
    | cons p ps ih =>
      intro parts last h
      have := ih (parts.push (b.extract last p)) (p + w) (by
        intro c hc
        rw [Array.toList_push, List.mem_append] at hc
        rcases hc with hc | hc
        · exact h c hc
        · rw [List.mem_singleton.mp hc, Array.size_extract]; omega)
      refine ⟨this.1, ?_⟩
      rw [List.foldl_cons, this.2, Array.size_push, List.length_cons]; omega
  have k := key places #[] 0 (by simp)
  have e : Bytes.between b w places = ((places.foldl (fun (x : Array (Array UInt8) × Nat) p => (x.1.push (b.extract x.2 p), p + w)) (#[], 0)).1.push
      (b.extract (places.foldl (fun (x : Array (Array UInt8) × Nat) p => (x.1.push (b.extract x.2 p), p + w)) (#[], 0)).2 b.size)).toList := rfl
  rw [e]
  refine ⟨fun c hc => ?_, ?_⟩
  · rw [Array.toList_push, List.mem_append] at hc
    rcases hc with hc | hc
    · exact k.1 c hc
    · rw [List.mem_singleton.mp hc, Array.size_extract]; omega
  · rw [Array.length_toList, Array.size_push, k.2]; simp

def pieces (b : Array UInt8) (c : UInt8) : List (Array UInt8) := Bytes.between b 1 ((Bytes.occurrences b #[c] 0 b.size).take (b.size + 1))
theorem meets_split (b : Array UInt8) (c : UInt8) (t t2 : Tok) :
    Meets («bytes.split» ⟨[.bytes b t, .bytes #[c] t2], []⟩) (fun _ R s => b.size ≤ 100000 ∧ ∀ vs k, BytesAre vs (pieces b c) →
      R (.ok (.ret (.ref s.heap.objs.size))) { s with heap := s.heap.push { cls := .type "list", data := .seq vs.toArray }, toks := k }) := by
  refine .of_wp fun prog w A R s hS => ?_
  obtain ⟨hsz, h⟩ := hS
  show wpAny _ _ (Bytes.bindOptional "bytes.split" "split" ["sep", "maxsplit"] [.bytes #[c] t2] [] >>= fun r => _) _ _ s
  refine wpAny_bind (wpAny_of_eq (bind_split _) ?_)
  show wpAny _ _ (Bytes.payload (.bytes b t) >>= fun r => _) _ _ s
  refine wpAny_bind (wpAny_of_eq (a := b) rfl ?_)
  show wpAny _ _ (Bytes.bytesLike _ (.bytes #[c] t2) >>= fun r => _) _ _ s
  refine wpAny_bind (wpAny_of_eq KBd.like_eq ?_)
  refine bm_if_false rfl ?_
  show wpAny _ _ (if ((Bytes.occurrences b #[c] 0 b.size).take (b.size + 1)).isEmpty = true then _ else _) _ _ s
  cases hp : ((Bytes.occurrences b #[c] 0 b.size).take (b.size + 1)).isEmpty with
  | true =>
    refine bm_if_true rfl ?_
    refine wpAny_bind (wpAny_rule ?_)
    refine wpAny_bind (wpAny_of_eq (a := Value.bytes b t) rfl ?_)
    refine wpAny_bind (wpAny_newObj_type ?_ (by show (1 : Nat) ≤ sizeLine; rw [sizeLine_eq]; decide))
    refine wpAny_pure ⟨_, rfl, h [.bytes b t] s.toks ?_⟩
    have e0 : (Bytes.occurrences b #[c] 0 b.size).take (b.size + 1) = [] := List.isEmpty_iff.mp hp
    have e1 : pieces b c = [b] := by
      unfold pieces
      rw [e0]
      show [b.extract 0 b.size] = [b]
      rw [Array.extract_size]
    rw [e1]
    exact .cons b t .nil
  | false =>
    refine bm_if_false rfl ?_
    have bt := between_all b 1 ((Bytes.occurrences b #[c] 0 b.size).take (b.size + 1))
    show wpAny _ _ (List.mapM (Bytes.Kind.new .bytes) (pieces b c) >>= fun r => _) _ _ s
    refine wpAny_bind (mapM_new _ _ (fun x hx => ?_) fun vs k hv => ?_)
    · have := bt.1 x hx
      rw [sizeLine_eq]; omega
    · have hl := hv.length
      have hl2 : (pieces b c).length ≤ b.size + 2 := by
        have := bt.2
        unfold pieces
        rw [this, List.length_take]; omega
      refine wpAny_bind (wpAny_newObj_type ?_ (by show vs.toArray.size ≤ _; rw [List.size_toArray, sizeLine_eq]; omega))
      exact wpAny_pure ⟨_, rfl, h vs k hv⟩

theorem call_split {h₀ : Heap} {L : Addr} {m : Str → Option Value} {news : List (Addr × Obj)} {b : Array UInt8} {c : UInt8} {t t2 : Tok} (F : Fr h₀ L s.heap m) (N : News h₀ L s.heap news) (hsz : b.size ≤ 100000)
    (h : ∀ d vs h' k, BytesAre vs (pieces b c) → Fr h₀ L h' m → News h₀ L h' ((d, listOf vs.toArray 0) :: news) → AllLt d news → Q (.ref d) { s with heap := h', toks := k }) :
    wpAny (model prog w) A (call (.builtin "bytes.split") [.bytes b t, .bytes #[c] t2]) Q E s := by
  refine call_meets slot_split (typeIs_bytes _ _ _) entry_split (args_split _ _) (meets_split b c t t2) ⟨hsz, fun vs k hv => ?_⟩
  exact h _ vs _ k hv (F.push _) (N.push F _) (allLt_of fun p hp => Heap.lt_size (N p hp).1)
theorem meth_split {M : Model} {b : Array UInt8} {t : Tok} {pl : Sem Bool} {Q : Value × List Value → Shared → Prop} (h : Q (.builtin "bytes.split", [.bytes b t]) s) : wpAny M A (getMethod (.bytes b t) "split" pl) Q E s := by
  with_reducible exact KBd.method_of (.bytes b t) (typeIs_bytes _ _ _) slot_split type_split KBd.noRef h
theorem meth_join {M : Model} {b : Array UInt8} {t : Tok} {pl : Sem Bool} {Q : Value × List Value → Shared → Prop} (h : Q (.builtin "bytes.join", [.bytes b t]) s) : wpAny M A (getMethod (.bytes b t) "join" pl) Q E s := by
  with_reducible exact KBd.method_of (.bytes b t) (typeIs_bytes _ _ _) slot_join type_join KBd.noRef h

theorem seq_items {l : Addr} {xs : Array Value} {Q : Option (Array Value) → Shared → Prop} {M : Model} (hl : s.heap.IsList l xs) (h : Q (some xs) s) : wpAny M A (seqItems? (.ref l)) Q E s := by
  obtain ⟨o, ho, hc, n, hd⟩ := hl
  unfold seqItems?
  refine wpAny_bind (wpAny_load ho ?_)
  rw [hd]
  exact wpAny_pure h
theorem join_items {l : Addr} {xs : Array Value} {Q : Value → Shared → Prop} {M : Model} (hl : s.heap.IsList l xs) (h : Q (.ref l) s) : wpAny M A (Bytes.joinItems (.ref l)) Q E s := by
  unfold Bytes.joinItems
  refine wpAny_bind (wpAny_typeOf hl.typeIs ?_)
  exact bm_if_true rfl (wpAny_pure h)
theorem take_eq {id : String} {b : Array UInt8} {t : Tok} : Bytes.takeBufferQuiet? id (.bytes b t) 0 = pure (some (b, none)) := by
  unfold Bytes.takeBufferQuiet? Bytes.takeBuffer?
  rw [KBy.special_eq KBy.look_buffer, KBy.own_buffer]
  simp only [pure_bind, show ((0 : Int) == Bytes.fullReadOnly) = false from rfl, KBy.buffer_eq]
  rfl
theorem BytesAre.noHeap {vs bs} (h : BytesAre vs bs) : ((vs.map fun v => (v, (none : Option Value))).any fun x => x.1.onHeap) = false := by
  induction h with
  | nil => rfl
  | cons b t _ ih => simpa [Value.onHeap] using ih
theorem joinLetGo_none {keep : List Value} {M : Model} {Q : Unit → Shared → Prop} : ∀ (vs : List Value) {s : Shared}, Q () s → wpAny M A (Bytes.joinLetGo (vs.map fun v => (v, (none : Option Value))) keep) Q E s
  | [], _, h => wpAny_pure h
  | v :: vs, s, h => by
    rw [List.map_cons]
    unfold Bytes.joinLetGo
    dsimp only
    exact wpAny_bind (wpAny_letGo (joinLetGo_none vs h))
theorem joined_one (b c : Array UInt8) : Bytes.joined b [c] = c := by
  show (if 0 > 0 then #[] ++ b else #[]) ++ c = c
  simp
theorem join_tail {M : Model} {R : Result → Shared → Prop} {E : Value → Shared → Prop} {b : Array UInt8} {t : Tok} {id : String} (xs : List Value) (bs : List (Array UInt8)) (_hb : BytesAre xs bs) (hsz : bs.foldl (· + ·.size) (b.size * (bs.length - 1)) ≤ 100000) (hsz2 : (Bytes.joined b bs).size ≤ 100000)
    (h : ∀ t' k, R (.ok (.ret (.bytes (Bytes.joined b bs) t'))) { s with toks := k }) :
    wpAny M A (do
      let sep ← Bytes.payload (.bytes b t)
      if Bytes.tooLong (bs.toArray.foldl (· + ·.size) (sep.size * (bs.toArray.size - 1))) then unsupported id
      let result ← Bytes.Kind.bytes.new (Bytes.joined sep bs.toArray.toList)
      holding (result :: (xs.map fun v => (v, (none : Option Value))).flatMap fun (y, u) => y :: u.toList) point
      Bytes.joinLetGo (xs.map fun v => (v, (none : Option Value))) [result]
      ret result) (fun fin s' => ∃ v, fin = Fin.done (Flow.ret v) ∧ R (Except.ok (Flow.ret v)) s') E s := by
  refine wpAny_bind (wpAny_of_eq (a := b) rfl ?_)
  refine bm_if_false ?_ ?_
  · refine KBy.tooLong_not ?_
    rw [← Array.foldl_toList]
    simpa using Nat.le_trans hsz (by decide)
  refine wpAny_bind (wpAny_mkBytes ?_ (by rw [sizeLine_eq]; exact Nat.le_trans hsz2 (by decide)))
  refine wpAny_bind (wpAny_holding (wpAny_point ?_))
  refine wpAny_bind (joinLetGo_none xs ?_)
  exact wpAny_pure ⟨_, rfl, h _ _⟩
theorem meets_join (b : Array UInt8) (l : Addr) (t : Tok) {xs : List Value} {bs : List (Array UInt8)} :
    Meets («bytes.join» ⟨[.bytes b t, .ref l], []⟩) (fun _ R s => s.heap.IsList l xs.toArray ∧ BytesAre xs bs ∧ bs.foldl (· + ·.size) (b.size * (bs.length - 1)) ≤ 100000 ∧ (Bytes.joined b bs).size ≤ 100000 ∧ ∀ t' k, R (.ok (.ret (.bytes (Bytes.joined b bs) t'))) { s with toks := k }) := by
  refine .of_wp fun prog w A R s hS => ?_
  obtain ⟨hl, hb, hsz, hsz2, h⟩ := hS
  show wpAny _ _ (Bytes.joinItems (.ref l) >>= fun r => _) _ _ s
  refine wpAny_bind (join_items hl ?_)
  refine wpAny_bind (seq_items hl ?_)
  refine bm_if_true rfl ?_
  have hb' := hb
  cases hb with
  | nil =>
    show wpAny _ _ (forIn [:0] (#[], []) _ >>= _) _ _ s
    rw [KPc.range_list]
    show wpAny _ _ (forIn [] (#[], []) _ >>= _) _ _ s
    rw [List.forIn_nil]
    refine wpAny_bind (wpAny_pure ?_)
    exact join_tail [] [] .nil hsz hsz2 h
  | cons b0 t0 hb =>
    cases hb with
    | nil =>
      refine wpAny_bind (wpAny_typeOf (typeIs_bytes _ _ _) ?_)
      refine bm_if_true rfl ?_
      refine wpAny_bind (wpAny_rule ?_)
      have q := h t0 s.toks
      rw [joined_one] at q
      exact wpAny_pure ⟨_, rfl, q⟩
    | @cons b1 t1 vs1 bs1 hb =>
      show wpAny _ _ (forIn [:(List.toArray (Value.bytes b0 t0 :: Value.bytes b1 t1 :: vs1)).size] (#[], []) _ >>= _) _ _ s
      clear hb
      rename BytesAre _ _ => hb
      generalize hX : List.toArray (Value.bytes b0 t0 :: Value.bytes b1 t1 :: vs1) = X at hl
      generalize hxs : (Value.bytes b0 t0 :: Value.bytes b1 t1 :: vs1) = xs at hb hX
      generalize hbs : (b0 :: b1 :: bs1) = bs at hb hsz hsz2 h
      refine wpAny_bind ?_
      have hXs : X.size = xs.length := by rw [← hX, List.size_toArray]
      rw [hXs]
      rw [KPc.range_list]
      refine wpAny_forIn_list _ (fun rest β s' => s' = s ∧ ∃ i, rest = List.range' i (xs.length - i) ∧ i ≤ xs.length ∧ β = ((bs.take i).toArray, (xs.take i).map fun v => (v, (none : Option Value)))) _ ?_ ?_ _ _ ⟨rfl, 0, by simp, Nat.zero_le _, by simp⟩
      · rintro x rest β s' ⟨rfl, i, hr, hi, rfl⟩
        have hlt : i < xs.length := by
          rcases Nat.lt_or_ge i xs.length with h | h
          · exact h
          · rw [Nat.sub_eq_zero_of_le h] at hr; cases hr
        obtain ⟨j, hj⟩ : ∃ j, xs.length - i = j + 1 := ⟨xs.length - i - 1, by omega⟩
        rw [hj, List.range'_succ] at hr
        obtain ⟨rfl, rfl⟩ := List.cons.inj hr
        obtain ⟨bi, ti, hv, hbi⟩ := hb.at x _ (List.getElem?_eq_getElem hlt)
        have hx : X.getD x Value.none = .bytes bi ti := by
          have e := List.getElem?_eq_getElem hlt
          rw [← hX]; simp [Array.getD, hlt, hv]
        dsimp only
        refine wpAny_bind (seq_items hl ?_)
        dsimp only
        refine bm_if_false ?_ ?_
        · rw [(hb.take x).noHeap]; rfl
        rw [hx]
        refine wpAny_bind (wpAny_holding (wpAny_of_eq take_eq ?_))
        dsimp only
        refine wpAny_bind (seq_items hl ?_)
        dsimp only
        refine bm_if_false (by simp [hXs]) ?_
        refine wpAny_pure ⟨rfl, x + 1, by rw [show xs.length - (x + 1) = j by omega], hlt, ?_⟩
        have e1 := List.getElem?_eq_getElem hlt
        rw [List.take_add_one, List.take_add_one, hbi, e1, hv]
        simp
      · rintro β s' ⟨rfl, i, hr, hi, rfl⟩
        have hin : i = xs.length := by
          rcases Nat.lt_or_ge i xs.length with h | h
          · obtain ⟨j, hj⟩ : ∃ j, xs.length - i = j + 1 := ⟨xs.length - i - 1, by omega⟩
            rw [hj, List.range'_succ] at hr; cases hr
          · omega
        subst hin
        rw [List.take_length, hb.length, List.take_length]
        dsimp only
        exact join_tail xs bs hb hsz hsz2 h
theorem call_join {b : Array UInt8} {t : Tok} {l : Addr} {xs : List Value} {bs : List (Array UInt8)} (hl : s.heap.IsList l xs.toArray) (hb : BytesAre xs bs) (hsz : bs.foldl (· + ·.size) (b.size * (bs.length - 1)) ≤ 100000) (hsz2 : (Bytes.joined b bs).size ≤ 100000)
    (h : ∀ t' k, Q (.bytes (Bytes.joined b bs) t') { s with toks := k }) : wpAny (model prog w) A (call (.builtin "bytes.join") [.bytes b t, .ref l]) Q E s :=
  call_meets slot_join (typeIs_bytes _ _ _) entry_join (args_join _ _) (meets_join b l t) ⟨hl, hb, hsz, hsz2, h⟩
end
end Mine
end
section
open PyProof.Rows.LCg
namespace Mine
section
variable {prog : Program} {w : World} {A : Around} {E : Value → Shared → Prop} {s : Shared} {h₀ : Heap} {L : Addr} {m : Str → Option Value} {env : Env}

theorem compEnd_mono {s₁ s₂ : Shared} {I C D : Addr} {oI oC oD : Obj} {S : List (Addr × Obj) → Prop} {r r' : Value → List (Addr × Obj) → Prop} {y : Value} (hr : ∀ nw, S nw → r y nw → r' y nw)
    (h : CompEnd h₀ L m s₁ I oI C oC D oD S r y s₂) : CompEnd h₀ L m s₁ I oI C oC D oD S r' y s₂ := by
  obtain ⟨h', tk, nw, e, F, N, o, hs, hh⟩ := h
  exact ⟨h', tk, nw, e, F, N, o, hs, hr nw hs hh⟩

theorem off1_mem {D : Addr} : ∀ {l : List (Addr × Obj)}, Off1 D l → ∀ p ∈ l, p.1 ≠ D
  | [], _, _, h => nomatch h
  | _ :: _, x, p, h => by
    rcases List.mem_cons.mp h with rfl | h
    · exact x.1
    · exact off1_mem x.2 p h

/-- a comprehension's turns by what holds of the list so far and of the ledger -/
theorem rest_J {elt : Expr} {x : Str} {scope : Scope} {cl : List (Str × Addr)} {S : List (Addr × Obj) → Prop} {P : Nat → Value → Prop} {Fin : List Value → List (Addr × Obj) → Prop} (n : Nat) (J : Nat → List Value → List (Addr × Obj) → Prop)
    (turn : ∀ i v ys nw I oI C oC D m₂ h tk (E' : Value → Shared → Prop), i < n → J i ys nw → S nw → P i v → NsObj oC m₂ → m₂ x = some v → Fr h₀ L h m → News h₀ L h ((I, oI) :: (C, oC) :: (D, lst ys) :: nw) → Off3 I C D nw → ((@Ne Nat I C) ∧ (@Ne Nat I D) ∧ (@Ne Nat C D)) →
      wpAny (model prog w) A (eval elt (compEnvC scope cl C env)) (CompEnd h₀ L m { s with heap := h, toks := tk } I oI C oC D (lst ys) S (fun y nw' => J (i + 1) (ys ++ [y]) nw')) E' { s with heap := h, toks := tk })
    (fin : ∀ ys nw, J n ys nw → Fin ys nw) :
    ∀ k i ys nw, i + k = n → J i ys nw → S nw → CompRest prog w A h₀ L m env elt x scope cl s S P Fin k i ys nw := by
  intro k
  induction k with
  | zero =>
    intro i ys nw e hJ _
    exact CompRest.zero (fin _ _ (by rw [Nat.add_zero] at e; exact e ▸ hJ))
  | succ k ih =>
    intro i ys nw e hJ hS
    refine CompRest.succ fun v I oI C oC D m₂ h tk E' hP hC hx F N off ne => ?_
    refine wpAny_mono (turn i v ys nw I oI C oC D m₂ h tk E' (by omega) hJ hS hP hC hx F N off ne) (fun y s₄ h₄ => ?_) fun _ _ z => z
    exact compEnd_mono (fun nw' hS' hJ' => ih (i + 1) _ _ (by omega) hJ' hS') h₄

theorem src_ledger {elt : Expr} {x : Str} {scope : Scope} {cl : List (Str × Addr)} {Q : Value → Shared → Prop} {ax : Addr} {vs : List Value} {k : Nat} {news : List (Addr × Obj)} (J : Nat → List Value → List (Addr × Obj) → Prop)
    (hh : A.handled = none) (F : Fr h₀ L s.heap m) (N : News h₀ L s.heap news) (hm : (ax, listOf vs.toArray k) ∈ news) (hsz : vs.length ≤ sizeLine) (h0 : J 0 [] news)
    (turn : ∀ i v ys nw I oI C oC D m₂ h tk (E' : Value → Shared → Prop), i < vs.length → J i ys nw → SrcAt h₀ ax vs.toArray nw → vs[i]? = some v → NsObj oC m₂ → m₂ x = some v → Fr h₀ L h m → News h₀ L h ((I, oI) :: (C, oC) :: (D, lst ys) :: nw) → Off3 I C D nw → ((@Ne Nat I C) ∧ (@Ne Nat I D) ∧ (@Ne Nat C D)) →
      wpAny (model prog w) A (eval elt (compEnvC scope cl C env)) (CompEnd h₀ L m { s with heap := h, toks := tk } I oI C oC D (lst ys) (SrcAt h₀ ax vs.toArray) (fun y nw' => J (i + 1) (ys ++ [y]) nw')) E' { s with heap := h, toks := tk })
    (fin : ∀ ys D h tk nw, J vs.length ys nw → Fr h₀ L h m → News h₀ L h ((D, listOf ys.toArray ys.length) :: nw) → Off1 D nw → Q (.ref D) { s with heap := h, toks := tk }) :
    CompSrc prog w A h₀ L m env elt x scope cl (fun s₂ => FinE h₀ L m s₂ Q) (.ref ax) s := by
  refine CompSrc.ledger hh F N hm (by rw [List.size_toArray]; exact hsz) fun g => ?_
  rw [List.size_toArray]
  refine rest_J vs.length J ?_ ?_ vs.length 0 [] news (Nat.zero_add _) h0 (.inr ⟨_, hm, rfl, _, rfl⟩)
  · intro i v ys nw I oI C oC D m₂ h tk E' hi hJ hS hP hC hx F' N' off ne
    exact turn i v ys nw I oI C oC D m₂ h tk E' hi hJ hS (by simpa using hP) hC hx F' N' off ne
  · intro ys nw hJ D h tk F' N' o1
    exact fin ys D h tk nw hJ F' N' o1
theorem src_base {elt : Expr} {x : Str} {scope : Scope} {cl : List (Str × Addr)} {Q : Value → Shared → Prop} {ax : Addr} {vs : List Value} {news : List (Addr × Obj)} (J : Nat → List Value → List (Addr × Obj) → Prop)
    (hh : A.handled = none) (F : Fr h₀ L s.heap m) (N : News h₀ L s.heap news) (hl : h₀.IsList ax vs.toArray) (hsz : vs.length ≤ sizeLine) (h0 : J 0 [] news)
    (turn : ∀ i v ys nw I oI C oC D m₂ h tk (E' : Value → Shared → Prop), i < vs.length → J i ys nw → SrcAt h₀ ax vs.toArray nw → vs[i]? = some v → NsObj oC m₂ → m₂ x = some v → Fr h₀ L h m → News h₀ L h ((I, oI) :: (C, oC) :: (D, lst ys) :: nw) → Off3 I C D nw → ((@Ne Nat I C) ∧ (@Ne Nat I D) ∧ (@Ne Nat C D)) →
      wpAny (model prog w) A (eval elt (compEnvC scope cl C env)) (CompEnd h₀ L m { s with heap := h, toks := tk } I oI C oC D (lst ys) (SrcAt h₀ ax vs.toArray) (fun y nw' => J (i + 1) (ys ++ [y]) nw')) E' { s with heap := h, toks := tk })
    (fin : ∀ ys D h tk nw, J vs.length ys nw → Fr h₀ L h m → News h₀ L h ((D, listOf ys.toArray ys.length) :: nw) → Off1 D nw → Q (.ref D) { s with heap := h, toks := tk }) :
    CompSrc prog w A h₀ L m env elt x scope cl (fun s₂ => FinE h₀ L m s₂ Q) (.ref ax) s := by
  refine CompSrc.base hh F N hl (by rw [List.size_toArray]; exact hsz) fun g => ?_
  rw [List.size_toArray]
  refine rest_J vs.length J ?_ ?_ vs.length 0 [] news (Nat.zero_add _) h0 (.inl hl)
  · intro i v ys nw I oI C oC D m₂ h tk E' hi hJ hS hP hC hx F' N' off ne
    exact turn i v ys nw I oI C oC D m₂ h tk E' hi hJ hS (by simpa using hP) hC hx F' N' off ne
  · intro ys nw hJ D h tk F' N' o1
    exact fin ys D h tk nw hJ F' N' o1
theorem src_range {elt : Expr} {x : Str} {scope : Scope} {cl : List (Str × Addr)} {Q : Value → Shared → Prop} {r : Addr} {b : Int} {t u v : Tok} {n : Nat} {news : List (Addr × Obj)} (J : Nat → List Value → List (Addr × Obj) → Prop)
    (hh : A.handled = none) (F : Fr h₀ L s.heap m) (N : News h₀ L s.heap news) (hr : IsRange s.heap r 0 b 1 t u v) (hb : b = (n : Int)) (hsz : n ≤ 1000) (h0 : J 0 [] news)
    (turn : ∀ i tv ys nw I oI C oC D m₂ h tk (E' : Value → Shared → Prop), i < n → J i ys nw → NsObj oC m₂ → m₂ x = some (.int (i : Int) tv) → Fr h₀ L h m → News h₀ L h ((I, oI) :: (C, oC) :: (D, lst ys) :: nw) → Off3 I C D nw → ((@Ne Nat I C) ∧ (@Ne Nat I D) ∧ (@Ne Nat C D)) →
      wpAny (model prog w) A (eval elt (compEnvC scope cl C env)) (CompEnd h₀ L m { s with heap := h, toks := tk } I oI C oC D (lst ys) (fun _ => True) (fun y nw' => J (i + 1) (ys ++ [y]) nw')) E' { s with heap := h, toks := tk })
    (fin : ∀ ys D h tk nw, J n ys nw → Fr h₀ L h m → News h₀ L h ((D, listOf ys.toArray ys.length) :: nw) → Off1 D nw → Q (.ref D) { s with heap := h, toks := tk }) :
    CompSrc prog w A h₀ L m env elt x scope cl (fun s₂ => FinE h₀ L m s₂ Q) (.ref r) s := by
  subst hb
  refine CompSrc.range hh F N hr (small_one (by decide) (by decide) (by omega) (by omega)) (rangeSize_nat _ _) (by rw [sizeLine_eq]; omega) fun g => ?_
  refine rest_J n J ?_ ?_ n 0 [] news (Nat.zero_add _) h0 trivial
  · intro i v ys nw I oI C oC D m₂ h tk E' hi hJ hS hP hC hx F' N' off ne
    obtain ⟨tv, rfl⟩ := hP
    exact turn i tv ys nw I oI C oC D m₂ h tk E' hi hJ hC (by simpa using hx) F' N' off ne
  · intro ys nw hJ D h tk F' N' o1
    exact fin ys D h tk nw hJ F' N' o1

/-- the end of a turn that made the objects tl -/
theorem comp_end {s₁ : Shared} {I C D : Addr} {oI oC oD : Obj} {S : List (Addr × Obj) → Prop} {r : Value → List (Addr × Obj) → Prop} {y : Value} {h' : Heap} {tk : Nat} {all nw : List (Addr × Obj)} (tl : List (Addr × Obj))
    (F : Fr h₀ L h' m) (N : News h₀ L h' all) (sub : ∀ p ∈ (I, oI) :: (C, oC) :: (D, oD) :: (tl ++ nw), p ∈ all) (offn : Off3 I C D nw) (offt : ∀ p ∈ tl, p.1 ≠ I ∧ p.1 ≠ C ∧ p.1 ≠ D) (hS : S (tl ++ nw)) (hr : r y (tl ++ nw)) :
    CompEnd h₀ L m s₁ I oI C oC D oD S r y { s₁ with heap := h', toks := tk } :=
  CompEnd.intro F N (tl ++ nw) sub (Off3.of fun p hp => by
    rcases List.mem_append.mp hp with hp | hp
    · exact offt p hp
    · exact offn.mem p hp) hS hr
/-- the same where a turn leaves nothing behind -/
def End1 (h₀ : Heap) (L : Addr) (m : Str → Option Value) (s₁ : Shared) (I : Addr) (oI : Obj) (C : Addr) (oC : Obj) (D : Addr) (oD : Obj) (news : List (Addr × Obj)) (J : Value → Prop) (y : Value) (s₂ : Shared) : Prop :=
  ∃ h' tk all, s₂ = { s₁ with heap := h', toks := tk } ∧ Fr h₀ L h' m ∧ News h₀ L h' all ∧ (∀ p ∈ (I, oI) :: (C, oC) :: (D, oD) :: news, p ∈ all) ∧ J y
theorem end1 {s₁ : Shared} {I C D : Addr} {oI oC oD : Obj} {J : Value → Prop} {y : Value} {h' : Heap} {tk : Nat} {all news : List (Addr × Obj)}
    (F : Fr h₀ L h' m) (N : News h₀ L h' all) (sub : ∀ p ∈ (I, oI) :: (C, oC) :: (D, oD) :: news, p ∈ all) (hr : J y) :
    End1 h₀ L m s₁ I oI C oC D oD news J y { s₁ with heap := h', toks := tk } := ⟨h', tk, all, rfl, F, N, sub, hr⟩
theorem end1_to {s₁ s₂ : Shared} {I C D : Addr} {oI oC oD : Obj} {S : List (Addr × Obj) → Prop} {J : Value → Prop} {y : Value} {news : List (Addr × Obj)} (off : Off3 I C D news) (hS : S news)
    (h : End1 h₀ L m s₁ I oI C oC D oD news J y s₂) : CompEnd h₀ L m s₁ I oI C oC D oD S (fun y nw => nw = news ∧ J y) y s₂ := by
  obtain ⟨h', tk, all, rfl, F, N, sub, hr⟩ := h
  exact CompEnd.intro F N news sub off hS ⟨rfl, hr⟩
theorem src_ledger1 {elt : Expr} {x : Str} {scope : Scope} {cl : List (Str × Addr)} {Q : Value → Shared → Prop} {ax : Addr} {vs : List Value} {k : Nat} {news : List (Addr × Obj)} (J : Nat → List Value → Prop)
    (hh : A.handled = none) (F : Fr h₀ L s.heap m) (N : News h₀ L s.heap news) (hm : (ax, listOf vs.toArray k) ∈ news) (hsz : vs.length ≤ sizeLine) (h0 : J 0 [])
    (turn : ∀ i v ys I oI C oC D m₂ h tk (E' : Value → Shared → Prop), i < vs.length → J i ys → vs[i]? = some v → NsObj oC m₂ → m₂ x = some v → Fr h₀ L h m → News h₀ L h ((I, oI) :: (C, oC) :: (D, lst ys) :: news) → Off3 I C D news → ((@Ne Nat I C) ∧ (@Ne Nat I D) ∧ (@Ne Nat C D)) →
      wpAny (model prog w) A (eval elt (compEnvC scope cl C env)) (End1 h₀ L m { s with heap := h, toks := tk } I oI C oC D (lst ys) news (fun y => J (i + 1) (ys ++ [y]))) E' { s with heap := h, toks := tk })
    (fin : ∀ ys D h tk, J vs.length ys → Fr h₀ L h m → News h₀ L h ((D, listOf ys.toArray ys.length) :: news) → Off1 D news → Q (.ref D) { s with heap := h, toks := tk }) :
    CompSrc prog w A h₀ L m env elt x scope cl (fun s₂ => FinE h₀ L m s₂ Q) (.ref ax) s := by
  refine src_ledger (fun i ys nw => nw = news ∧ J i ys) hh F N hm hsz ⟨rfl, h0⟩ ?_ ?_
  · rintro i v ys nw I oI C oC D m₂ h tk E' hi ⟨rfl, hJ⟩ hS hP hC hx F' N' off ne
    exact wpAny_mono (turn i v ys I oI C oC D m₂ h tk E' hi hJ hP hC hx F' N' off ne) (fun y s₂ h₂ => end1_to off hS h₂) fun _ _ z => z
  · rintro ys D h tk nw ⟨rfl, hJ⟩ F' N' o1
    exact fin ys D h tk hJ F' N' o1
theorem src_range1 {elt : Expr} {x : Str} {scope : Scope} {cl : List (Str × Addr)} {Q : Value → Shared → Prop} {r : Addr} {b : Int} {t u v : Tok} {n : Nat} {news : List (Addr × Obj)} (J : Nat → List Value → Prop)
    (hh : A.handled = none) (F : Fr h₀ L s.heap m) (N : News h₀ L s.heap news) (hr : IsRange s.heap r 0 b 1 t u v) (hb : b = (n : Int)) (hsz : n ≤ 1000) (h0 : J 0 [])
    (turn : ∀ i tv ys I oI C oC D m₂ h tk (E' : Value → Shared → Prop), i < n → J i ys → NsObj oC m₂ → m₂ x = some (.int (i : Int) tv) → Fr h₀ L h m → News h₀ L h ((I, oI) :: (C, oC) :: (D, lst ys) :: news) → Off3 I C D news → ((@Ne Nat I C) ∧ (@Ne Nat I D) ∧ (@Ne Nat C D)) →
      wpAny (model prog w) A (eval elt (compEnvC scope cl C env)) (End1 h₀ L m { s with heap := h, toks := tk } I oI C oC D (lst ys) news (fun y => J (i + 1) (ys ++ [y]))) E' { s with heap := h, toks := tk })
    (fin : ∀ ys D h tk, J n ys → Fr h₀ L h m → News h₀ L h ((D, listOf ys.toArray ys.length) :: news) → Off1 D news → Q (.ref D) { s with heap := h, toks := tk }) :
    CompSrc prog w A h₀ L m env elt x scope cl (fun s₂ => FinE h₀ L m s₂ Q) (.ref r) s := by
  refine src_range (fun i ys nw => nw = news ∧ J i ys) hh F N hr hb hsz ⟨rfl, h0⟩ ?_ ?_
  · rintro i tv ys nw I oI C oC D m₂ h tk E' hi ⟨rfl, hJ⟩ hC hx F' N' off ne
    exact wpAny_mono (turn i tv ys I oI C oC D m₂ h tk E' hi hJ hC hx F' N' off ne) (fun y s₂ h₂ => end1_to off trivial h₂) fun _ _ z => z
  · rintro ys D h tk nw ⟨rfl, hJ⟩ F' N' o1
    exact fin ys D h tk hJ F' N' o1
theorem ld_cell {M : Model} {cl : List (Str × Addr)} {scope : Scope} {C c : Addr} {o : Obj} {x : Str} {pos : Pos} {v : Value} {news : List (Addr × Obj)} {Q : Value → Shared → Prop} (N : News h₀ L s.heap news) (hc : cl.lookup x = some c) (hm : (c, o) ∈ news) (hd : o.data = .cell (some v))
    (hk : (compEnvC scope cl C env).scope.kind = .function) (hx : (compEnvC scope cl C env).kindOf x = some .cell) (hb : (x == ("__debug__" : Str)) = false) (h : Q v s) :
    wpAny M A (eval (.Name x pos) (compEnvC scope cl C env)) Q E s := wpAny_Name (wpAny_loadName_cell hk hx hc ⟨o, N.get hm, hd⟩ h) hb
end
end Mine
end
section
namespace Mine
open PySem.Builtin
/-! the two bytes methods as functions of lists -/
def joinL (sep : List UInt8) : List (List UInt8) → List UInt8
  | [] => []
  | [x] => x
  | x :: y :: r => x ++ sep ++ joinL sep (y :: r)
theorem joinL_cons (sep x : List UInt8) : ∀ r : List (List UInt8), joinL sep (x :: r) = x ++ (r.map fun y => sep ++ y).flatten
  | [] => by simp [joinL]
  | y :: r => by
    rw [joinL, joinL_cons sep y r]
    simp
theorem joined_go (sep : Array UInt8) : ∀ (bs : List (Array UInt8)) (k : Nat) (out : Array UInt8), 0 < k →
    ((bs.zipIdx k).foldl (fun out (x : Array UInt8 × Nat) => (if x.2 > 0 then out ++ sep else out) ++ x.1) out).toList = out.toList ++ ((bs.map (·.toList)).map fun y => sep.toList ++ y).flatten
  | [], _, out, _ => by simp
  | b :: bs, k, out, hk => by
    rw [List.zipIdx_cons, List.foldl_cons, joined_go sep bs (k + 1) _ (Nat.succ_pos _)]
    simp [hk]
theorem joined_list (sep : Array UInt8) (bs : List (Array UInt8)) : (Bytes.joined sep bs).toList = joinL sep.toList (bs.map (·.toList)) := by
  cases bs with
  | nil => rfl
  | cons b bs =>
    show ((List.zipIdx (b :: bs)).foldl (fun out (x : Array UInt8 × Nat) => (if x.2 > 0 then out ++ sep else out) ++ x.1) #[]).toList = _
    rw [List.zipIdx_cons, List.foldl_cons, joined_go sep bs (0 + 1) _ (by decide), List.map_cons, joinL_cons]
    simp
theorem joinL_len (sep : List UInt8) (M : Nat) : ∀ l : List (List UInt8), (∀ x ∈ l, x.length ≤ M) → (joinL sep l).length ≤ l.length * (M + sep.length)
  | [], _ => by simp [joinL]
  | [x], h => by have := h x (.head _); simp [joinL]; omega
  | x :: y :: r, h => by
    have h1 := h x (.head _)
    have h2 := joinL_len sep M (y :: r) fun z hz => h z (.tail _ hz)
    rw [joinL, List.length_append, List.length_append]
    rw [List.length_cons, Nat.succ_mul]
    omega
theorem joined_size (sep : Array UInt8) (M : Nat) (bs : List (Array UInt8)) (h : ∀ b ∈ bs, b.size ≤ M) : (Bytes.joined sep bs).size ≤ bs.length * (M + sep.size) := by
  have := joinL_len sep.toList M (bs.map (·.toList)) (by
    intro x hx
    obtain ⟨b, hb, rfl⟩ := List.mem_map.mp hx
    simpa using h b hb)
  rw [← joined_list] at this
  simpa using this
theorem sizes_le (M : Nat) : ∀ (bs : List (Array UInt8)) (k : Nat), (∀ b ∈ bs, b.size ≤ M) → bs.foldl (· + ·.size) k ≤ k + bs.length * M
  | [], k, _ => by simp
  | b :: bs, k, h => by
    have h1 := h b (.head _)
    have h2 := sizes_le M bs (k + b.size) fun c hc => h c (.tail _ hc)
    rw [List.foldl_cons, List.length_cons, Nat.succ_mul]
    omega
end Mine
end
section
namespace Mine
/-- the reader's state -/
structure St where
  found : List (List (Option Int))
  parts : List (Option Int)
  value : Option Int
  begun : Bool
def st0 : St := ⟨[], [], none, false⟩
def closePart (most : Int) (s : St) : St := { s with parts := if (s.parts.length : Int) < most then s.parts ++ [s.value] else s.parts, value := none }
def closeParam (most : Int) (s : St) : St := { s with found := if (s.found.length : Int) < most then s.found ++ [s.parts] else s.found, parts := [] }
def figure (limit : Int) (s : St) (c : Int) : St := { s with value := some (min limit (s.value.getD 0 * 10 + c - 48)) }
def putS (most limit : Int) (s : St) (c : Int) : St :=
  if 48 ≤ c ∧ c ≤ 57 then { figure limit s c with begun := true }
  else if c = 58 then { closePart most s with begun := true }
  else if c = 59 then { closeParam most (closePart most s) with begun := true }
  else s
def paramsS (most : Int) (s : St) : List (List (Option Int)) :=
  if s.begun then
    (if (s.found.length : Int) < most then s.found ++ [if (s.parts.length : Int) < most then s.parts ++ [s.value] else s.parts] else s.found)
  else []
def StOk (most limit : Int) (s : St) : Prop := (s.found.length : Int) ≤ most ∧ (s.parts.length : Int) ≤ most ∧ (∀ i, s.value = some i → 0 ≤ i ∧ i ≤ limit) ∧
  (∀ row ∈ s.found, (row.length : Int) ≤ most ∧ ∀ i, some i ∈ row → 0 ≤ i ∧ i ≤ limit) ∧ ∀ i, some i ∈ s.parts → 0 ≤ i ∧ i ≤ limit
theorem st0_ok {most limit : Int} (h : 0 ≤ most) : StOk most limit st0 := ⟨h, h, nofun, nofun, nofun⟩
theorem closePart_ok {most limit : Int} {s : St} (h : StOk most limit s) : StOk most limit (closePart most s) := by
  obtain ⟨h1, h2, h3, h4, h5⟩ := h
  refine ⟨h1, ?_, nofun, h4, ?_⟩
  · show ((if (s.parts.length : Int) < most then s.parts ++ [s.value] else s.parts).length : Int) ≤ most
    split
    · rw [List.length_append]; simp; omega
    · exact h2
  · intro i hi
    have hi' : some i ∈ (if (s.parts.length : Int) < most then s.parts ++ [s.value] else s.parts) := hi
    split at hi'
    · rcases List.mem_append.mp hi' with hi' | hi'
      · exact h5 i hi'
      · exact h3 i (List.mem_singleton.mp hi').symm
    · exact h5 i hi'
theorem closeParam_ok {most limit : Int} {s : St} (h0 : 0 ≤ most) (h : StOk most limit s) : StOk most limit (closeParam most s) := by
  obtain ⟨h1, h2, h3, h4, h5⟩ := h
  refine ⟨?_, h0, h3, ?_, nofun⟩
  · show ((if (s.found.length : Int) < most then s.found ++ [s.parts] else s.found).length : Int) ≤ most
    split
    · rw [List.length_append]; simp; omega
    · exact h1
  · intro row hr
    have hr' : row ∈ (if (s.found.length : Int) < most then s.found ++ [s.parts] else s.found) := hr
    split at hr'
    · rcases List.mem_append.mp hr' with hr' | hr'
      · exact h4 row hr'
      · rw [List.mem_singleton.mp hr']; exact ⟨h2, h5⟩
    · exact h4 row hr'
theorem putS_ok {most limit c : Int} {s : St} (h0 : 0 ≤ most) (hl : 0 ≤ limit) (h : StOk most limit s) : StOk most limit (putS most limit s c) := by
  unfold putS
  split
  · rename_i hc
    obtain ⟨h1, h2, h3, h4, h5⟩ := h
    refine ⟨h1, h2, ?_, h4, h5⟩
    intro i hi
    have hi' : some (min limit (s.value.getD 0 * 10 + c - 48)) = some i := hi
    obtain rfl := Option.some.inj hi'
    have hv : 0 ≤ s.value.getD 0 := by
      cases e : s.value with
      | none => exact Int.le_refl 0
      | some j => exact (h3 j e).1
    constructor
    · omega
    · omega
  · split
    · exact closePart_ok h
    · split
      · exact closeParam_ok h0 (closePart_ok h)
      · exact h

abbrev rdOf (w : World) (t1 t2 t3 t4 t5 t6 tm tl : Tok) (most limit : Int) (f p : Addr) (v : Value) (b : Bool) : Obj :=
  dictOf [⟨PyData.keyHash w.params (Str.ofString "most"), .str (Str.ofString "most") t1, .int most tm⟩, ⟨PyData.keyHash w.params (Str.ofString "limit"), .str (Str.ofString "limit") t2, .int limit tl⟩,
    ⟨PyData.keyHash w.params (Str.ofString "found"), .str (Str.ofString "found") t3, .ref f⟩, ⟨PyData.keyHash w.params (Str.ofString "parts"), .str (Str.ofString "parts") t4, .ref p⟩,
    ⟨PyData.keyHash w.params (Str.ofString "value"), .str (Str.ofString "value") t5, v⟩, ⟨PyData.keyHash w.params (Str.ofString "is_begun"), .str (Str.ofString "is_begun") t6, .bool b⟩] 6
theorem reorder {h₀ h : Heap} {L : Addr} {q1 q2 q3 q4 q5 : Addr × Obj} {fz rest : List (Addr × Obj)} (N : News h₀ L h (q1 :: q2 :: q3 :: q4 :: q5 :: (fz ++ rest))) : News h₀ L h ((q2 :: q3 :: q4 :: q1 :: q5 :: fz) ++ rest) :=
  news_sub N fun p hp => by
    simp only [List.cons_append, List.mem_cons] at hp ⊢
    rcases hp with h | h | h | h | h | h
    · exact .inr (.inl h)
    · exact .inr (.inr (.inl h))
    · exact .inr (.inr (.inr (.inl h)))
    · exact .inl h
    · exact .inr (.inr (.inr (.inr (.inl h))))
    · exact .inr (.inr (.inr (.inr (.inr h))))
theorem reorder4 {h₀ h : Heap} {L : Addr} {q1 q2 q3 q4 q5 : Addr × Obj} {fz rest : List (Addr × Obj)} (N : News h₀ L h (q1 :: q2 :: q3 :: q4 :: q5 :: (fz ++ rest))) : News h₀ L h ((q2 :: q3 :: q4 :: q1 :: fz) ++ rest) :=
  news_sub N fun p hp => by
    simp only [List.cons_append, List.mem_cons] at hp ⊢
    rcases hp with h | h | h | h | h
    · exact .inr (.inl h)
    · exact .inr (.inr (.inl h))
    · exact .inr (.inr (.inr (.inl h)))
    · exact .inl h
    · exact .inr (.inr (.inr (.inr (.inr h))))
/-- the ledger bears a reader -/
def RI (w : World) (x dx : Addr) (most limit : Int) (st : St) (nx : List (Addr × Obj)) : Prop :=
  ∃ (f p : Addr) (v : Value) (fs ps : List Value) (nf np : Nat) (t1 t2 t3 t4 t5 t6 tm tl : Tok) (fz : List (Addr × Obj)),
    nx = (x, instObj 72 dx) :: (dx, rdOf w t1 t2 t3 t4 t5 t6 tm tl most limit f p v st.begun) :: (f, listOf fs.toArray nf) :: (p, listOf ps.toArray np) :: fz ∧
    (@Ne Nat x dx ∧ @Ne Nat x f ∧ @Ne Nat x p ∧ @Ne Nat dx f ∧ @Ne Nat dx p ∧ @Ne Nat f p) ∧ (∀ q ∈ fz, @Ne Nat q.1 x ∧ @Ne Nat q.1 dx ∧ @Ne Nat q.1 f ∧ @Ne Nat q.1 p) ∧
    DatAll fz fs (st.found.map rowD) ∧ DatAll [] ps (st.parts.map vD) ∧ DatIn [] v (vD st.value)
end Mine
end
section
namespace Mine
/-- a reader that was just made -/
theorem ri_new {w : World} {x d f p : Addr} {most limit : Int} {np nf : Nat} {t1 t2 t3 t4 t5 t6 tm tl : Tok}
    (h1 : @Ne Nat x d ∧ @Ne Nat x f ∧ @Ne Nat x p ∧ @Ne Nat d f ∧ @Ne Nat d p ∧ @Ne Nat f p) : RI w x d most limit st0 [(x, instObj 72 d), (d, rdOf w t1 t2 t3 t4 t5 t6 tm tl most limit f p .none false), (f, listOf (List.toArray []) nf), (p, listOf (List.toArray []) np)] := by
  refine ⟨f, p, .none, [], [], nf, np, t1, t2, t3, t4, t5, t6, tm, tl, [], ?_, h1, ?_, ?_, ?_, ?_⟩
  · rfl
  · intro q hq; cases hq
  · exact .nil
  · exact .nil
  · exact .none
theorem ri_start {w : World} {h₀ h : Heap} {L x d f p : Addr} {most limit : Int} {np nf : Nat} {t1 t2 t3 t4 t5 t6 tm tl : Tok} {news : List (Addr × Obj)}
    (N : News h₀ L h ((p, listOf #[] np) :: (f, listOf #[] nf) :: (x, instObj 72 d) :: (d, rdOf w t1 t2 t3 t4 t5 t6 tm tl most limit f p .none false) :: news))
    (l0 : ∀ q ∈ news, q.1 < d) (l1 : d < x) (l2 : x < f) (l3 : f < p) : ∃ nx, RI w x d most limit st0 nx ∧ News h₀ L h (nx ++ news) ∧ OwnOff news (nx.map (·.1)) := by
  have e1 : @LT.lt Nat _ d x := l1
  have e2 : @LT.lt Nat _ x f := l2
  have e3 : @LT.lt Nat _ f p := l3
  refine ⟨[(x, instObj 72 d), (d, rdOf w t1 t2 t3 t4 t5 t6 tm tl most limit f p .none false), (f, listOf (List.toArray []) nf), (p, listOf (List.toArray []) np)], ri_new ⟨Nat.ne_of_gt e1, Nat.ne_of_lt e2, Nat.ne_of_lt (Nat.lt_trans e2 e3), Nat.ne_of_lt (Nat.lt_trans e1 e2), Nat.ne_of_lt (Nat.lt_trans e1 (Nat.lt_trans e2 e3)), Nat.ne_of_lt e3⟩, ?_, ?_⟩
  · generalize (p, listOf (List.toArray []) np) = q4 at N ⊢
    generalize (f, listOf (List.toArray []) nf) = q3 at N ⊢
    generalize (d, rdOf w t1 t2 t3 t4 t5 t6 tm tl most limit f p .none false) = q2 at N ⊢
    generalize (x, instObj 72 d) = q1 at N ⊢
    exact news_sub N fun q hq => by
      simp only [List.cons_append, List.nil_append, List.mem_cons] at hq ⊢
      grind
  · intro q hq b hb
    have q0 : @LT.lt Nat _ q.1 d := l0 q hq
    have : b = x ∨ b = d ∨ b = f ∨ b = p := by
      rcases List.mem_cons.mp hb with h | hb
      · exact .inl h
      · rcases List.mem_cons.mp hb with h | hb
        · exact .inr (.inl h)
        · rcases List.mem_cons.mp hb with h | hb
          · exact .inr (.inr (.inl h))
          · exact .inr (.inr (.inr (List.mem_singleton.mp hb)))
    rcases this with h | h | h | h
    · rw [h]; exact Nat.ne_of_lt (Nat.lt_trans q0 e1)
    · rw [h]; exact Nat.ne_of_lt q0
    · rw [h]; exact Nat.ne_of_lt (Nat.lt_trans q0 (Nat.lt_trans e1 e2))
    · rw [h]; exact Nat.ne_of_lt (Nat.lt_trans q0 (Nat.lt_trans e1 (Nat.lt_trans e2 e3)))
theorem map_over {x : Str} {v : Option Value} {m₀ m₁ : Str → Option Value} (h : ∀ y, y ≠ x → m₁ y = m₀ y) : (fun y => if y = x then v else m₁ y) = fun y => if y = x then v else m₀ y := by
  funext y
  by_cases e : y = x
  · simp [e]
  · simp [e, h y e]
theorem map_done {x : Str} {m₀ m₁ : Str → Option Value} (h : ∀ y, y ≠ x → m₁ y = m₀ y) : (fun y => if y = x then m₁ y else m₀ y) = m₁ := by
  funext y
  by_cases e : y = x
  · simp [e]
  · simp [e, h y e]
theorem off_app {l l1 l2 : List (Addr × Obj)} (h1 : OwnOff l (l1.map (·.1))) (h2 : OwnOff l (l2.map (·.1))) : OwnOff l ((l1 ++ l2).map (·.1)) := by
  intro p hp b hb
  rw [List.map_append] at hb
  rcases List.mem_append.mp hb with hb | hb
  · exact h1 p hp b hb
  · exact h2 p hp b hb
theorem off_left {l l1 l2 : List (Addr × Obj)} (h : OwnOff l ((l1 ++ l2).map (·.1))) : OwnOff l (l1.map (·.1)) := fun p hp b hb => h p hp b (by rw [List.map_append]; exact List.mem_append.mpr (.inl hb))
theorem off_right {l l1 l2 : List (Addr × Obj)} (h : OwnOff l ((l1 ++ l2).map (·.1))) : OwnOff l (l2.map (·.1)) := fun p hp b hb => h p hp b (by rw [List.map_append]; exact List.mem_append.mpr (.inr hb))
theorem own_app {l l1 : List (Addr × Obj)} {a : List Addr} (h1 : OwnOff l a) (h2 : OwnOff l1 a) : OwnOff (l ++ l1) a := fun p hp b hb => (List.mem_append.mp hp).elim (fun h => h1 p h b hb) fun h => h2 p h b hb
theorem own_left {l l1 : List (Addr × Obj)} {a : List Addr} (h : OwnOff (l ++ l1) a) : OwnOff l a := fun p hp b hb => h p (List.mem_append.mpr (.inl hp)) b hb
theorem own_right {l l1 : List (Addr × Obj)} {a : List Addr} (h : OwnOff (l ++ l1) a) : OwnOff l1 a := fun p hp b hb => h p (List.mem_append.mpr (.inr hp)) b hb
/-- the reader's state behind octets -/
def runS (most limit : Int) (l : List Int) (s : St) : St := l.foldl (putS most limit) s
theorem runS_ok {most limit : Int} (h0 : 0 ≤ most) (hl : 0 ≤ limit) : ∀ (l : List Int) {s : St}, StOk most limit s → StOk most limit (runS most limit l s)
  | [], _, h => h
  | c :: l, _, h => runS_ok h0 hl l (putS_ok h0 hl h)
def octs (b : Array UInt8) : List Int := b.toList.map fun c => (c.toNat : Int)
theorem octs_len (b : Array UInt8) : (octs b).length = b.size := by simp [octs]
theorem octs_at {b : Array UInt8} {i : Nat} {c : UInt8} (h : b[i]? = some c) : (octs b)[i]? = some (c.toNat : Int) := by simp [octs, h]
theorem run_step {most limit : Int} {b : Array UInt8} {i : Nat} {c : UInt8} (h : b[i]? = some c) : runS most limit ((octs b).take (i + 1)) st0 = putS most limit (runS most limit ((octs b).take i) st0) (c.toNat : Int) := by
  unfold runS
  rw [List.take_add_one, octs_at h, List.foldl_append]; rfl
theorem byte_in (c : UInt8) : 0 ≤ (c.toNat : Int) ∧ (c.toNat : Int) < 256 := by have := c.toNat_lt; omega
end Mine
end
section
namespace Mine
def pdV : Option Int → PyData
  | none => .none
  | some i => .int i
def pdRow (r : List (Option Int)) : PyData := .list (r.map pdV)
def pdRows (rows : List (List (Option Int))) : PyData := .list (rows.map pdRow)
def reprOf (rows : List (List (Option Int))) : Str := (pdRows rows).shown
/-- what the reader reads: figures of at most five places, not too many of them -/
def RowsOk (rows : List (List (Option Int))) : Prop := rows.length ≤ 100 ∧ ∀ row ∈ rows, row.length ≤ 100 ∧ ∀ i, some i ∈ row → 0 ≤ i ∧ i < 100000
theorem reads_v {hp : Heap} {l9 : List (Addr × Obj)} {v : Value} {x : Option Int} (h : DatIn l9 v (vD x)) : Reads hp v (pdV x) [] := by
  cases x with
  | none => have := v_none h; subst this; exact .none
  | some i => obtain ⟨t, rfl⟩ := v_some h; exact .int i t
theorem reads_vs {hp : Heap} {l9 : List (Addr × Obj)} : ∀ {us : List Value} {row : List (Option Int)}, DatAll l9 us (row.map vD) → ReadsAll hp us (row.map pdV) []
  | _, [], h => by cases h; exact .nil
  | _, x :: row, h => by
    cases h with
    | cons h1 h2 => exact .cons (as := []) (bs := []) (reads_v h1) (reads_vs h2)
theorem reads_row {h₀ hp : Heap} {L : Addr} {news l9 : List (Addr × Obj)} {v : Value} {row : List (Option Int)} (N : News h₀ L hp news) (hs : ∀ p ∈ l9, p ∈ news) (h : DatIn l9 v (rowD row)) : ∃ as, Reads hp v (pdRow row) as := by
  obtain ⟨a, us, n, rfl, hm, hu⟩ := row_in h
  exact ⟨_, .list (N _ (hs _ hm)).1 rfl rfl (by simpa using reads_vs hu)⟩
theorem reads_rows {h₀ hp : Heap} {L : Addr} {news l9 : List (Addr × Obj)} (N : News h₀ L hp news) (hs : ∀ p ∈ l9, p ∈ news) : ∀ {vs : List Value} {rows : List (List (Option Int))}, DatAll l9 vs (rows.map rowD) → ∃ as, ReadsAll hp vs (rows.map pdRow) as
  | _, [], h => by cases h; exact ⟨_, .nil⟩
  | _, x :: rows, h => by
    cases h with
    | cons h1 h2 =>
      obtain ⟨as, r1⟩ := reads_row N hs h1
      obtain ⟨bs, r2⟩ := reads_rows N hs h2
      exact ⟨_, .cons r1 r2⟩
theorem showable_row {row : List (Option Int)} (h : ∀ i, some i ∈ row → 0 ≤ i ∧ i < 100000) : PyData.showableAll (row.map pdV) = true := by
  induction row with
  | nil => rfl
  | cons x row ih =>
    rw [List.map_cons, PyData.showableAll, ih fun i hi => h i (.tail _ hi), Bool.and_true]
    cases x with
    | none => rfl
    | some i =>
      obtain ⟨h0, h1⟩ := h i (.head _)
      show decide (i.natAbs.log2 < 1920) = true
      have : i.natAbs < 2 ^ 17 := by omega
      have h2 : i.natAbs.log2 ≤ 17 := by
        rcases Nat.eq_zero_or_pos i.natAbs with e | e
        · rw [e]; decide
        · exact Nat.le_of_lt ((Nat.log2_lt (by omega)).mpr this)
      exact decide_eq_true (by omega)
theorem showable_rows {rows : List (List (Option Int))} (h : ∀ row ∈ rows, ∀ i, some i ∈ row → 0 ≤ i ∧ i < 100000) : PyData.showableAll (rows.map pdRow) = true := by
  induction rows with
  | nil => rfl
  | cons x rows ih =>
    rw [List.map_cons, PyData.showableAll, ih fun r hr => h r (.tail _ hr), Bool.and_true]
    show PyData.showableAll _ = true
    exact showable_row (h x (.head _))
theorem noDict_row (row : List (Option Int)) : PyData.hasDictAll (row.map pdV) = false := by
  induction row with
  | nil => rfl
  | cons x row ih => rw [List.map_cons, PyData.hasDictAll, ih, Bool.or_false]; cases x <;> rfl
theorem noDict_rows (rows : List (List (Option Int))) : PyData.hasDictAll (rows.map pdRow) = false := by
  induction rows with
  | nil => rfl
  | cons x rows ih => rw [List.map_cons, PyData.hasDictAll, ih, Bool.or_false]; exact noDict_row x
theorem depth_row (row : List (Option Int)) : PyData.depthAll (row.map pdV) ≤ 1 := by
  induction row with
  | nil => exact Nat.zero_le _
  | cons x row ih =>
    rw [List.map_cons, PyData.depthAll]
    have : (pdV x).depth ≤ 1 := by cases x <;> simp [pdV, PyData.depth]
    omega
theorem depth_rows (rows : List (List (Option Int))) : PyData.depthAll (rows.map pdRow) ≤ 3 := by
  induction rows with
  | nil => exact Nat.zero_le _
  | cons x rows ih =>
    rw [List.map_cons, PyData.depthAll]
    have h1 := depth_row x
    have h2 : (pdRow x).depth ≤ 3 := by
      unfold pdRow; rw [PyData.depth]; omega
    omega
theorem sum_le (M : Nat) : ∀ l : List Nat, (∀ x ∈ l, x ≤ M) → l.sum ≤ l.length * M
  | [], _ => by simp
  | x :: l, h => by
    have h1 := h x (.head _)
    have h2 := sum_le M l fun y hy => h y (.tail _ hy)
    rw [List.sum_cons, List.length_cons, Nat.succ_mul]; omega
theorem shownAll_map {α : Type} (f : α → PyData) (l : List α) : PyData.shownAll (l.map f) = l.map fun x => (f x).shown := by
  induction l with
  | nil => rfl
  | cons x l ih => rw [List.map_cons, PyData.shownAll, ih]; rfl
theorem listLen {α : Type} (f : α → PyData) (M : Nat) (l : List α) (h : ∀ x ∈ l, (f x).shown.length ≤ M) : (PyData.list (l.map f)).shown.length ≤ l.length * M + 2 * l.length + 3 := by
  rw [PyData.shown]
  refine Nat.le_trans (listText_len_le _) ?_
  rw [shownAll_map, List.map_map, List.length_map]
  have := sum_le M (l.map (fun x => (f x).shown.length)) (by
    intro y hy
    obtain ⟨x, hx, rfl⟩ := List.mem_map.mp hy
    exact h x hx)
  rw [List.length_map] at this
  have e : ((fun (t : Str) => t.length) ∘ fun x => (f x).shown) = fun x => (f x).shown.length := rfl
  rw [e]
  omega
theorem reprOf_len {rows : List (List (Option Int))} (h : RowsOk rows) : (reprOf rows).length ≤ 100000 := by
  have h1 : ∀ row ∈ rows, (pdRow row).shown.length ≤ 900 := by
    intro row hr
    obtain ⟨a, b⟩ := h.2 row hr
    refine Nat.le_trans (listLen pdV 6 row ?_) (by omega)
    intro x hx
    cases x with
    | none => decide
    | some i =>
      obtain ⟨h0, h1⟩ := b i hx
      show (Str.ofString (toString i)).length ≤ 6
      have h5 : i < 10 ^ 5 := by
        rw [show (10 : Int) ^ 5 = 100000 from rfl]; exact h1
      exact Nat.le_trans (toString_length_le h0 (by decide : 0 < 5) h5) (by decide)
  have h2 := listLen pdRow 900 rows h1
  have h3 := h.1
  show (PyData.list (rows.map pdRow)).shown.length ≤ _
  omega
theorem repr_rows {prog : Program} {w : World} {A : Around} {E : Value → Shared → Prop} {s : Shared} {h₀ : Heap} {L : Addr} {m : Str → Option Value} {news l9 : List (Addr × Obj)} {r : Addr} {vs : List Value} {n : Nat} {rows : List (List (Option Int))} {Q : Value → Shared → Prop}
    (F : Fr h₀ L s.heap m) (N : News h₀ L s.heap news) (hr : (r, listOf vs.toArray n) ∈ news) (hD : DatAll l9 vs (rows.map rowD)) (hs : ∀ p ∈ l9, p ∈ news) (hok : RowsOk rows) (hg : A.guards = some []) (hu : A.units + 10 < cLine)
    (hQ : ∀ h' u tk, Fr h₀ L h' m → News h₀ L h' news → Q (.str (reprOf rows) u) { s with heap := h', toks := tk }) : wpAny (model prog w) A (call (.builtin "repr") [.ref r]) Q E s := by
  obtain ⟨as, ra⟩ := reads_rows N hs hD
  have r1 : Reads s.heap (.ref r) (pdRows rows) (r :: as) := .list (N _ hr).1 rfl rfl (by simpa using ra)
  have hd : (pdRows rows).depth ≤ 5 := by
    have := depth_rows rows
    unfold pdRows; rw [PyData.depth]; omega
  have hnd : (pdRows rows).hasDict = false := noDict_rows rows
  exact repr_of_reads' r1 (showable_rows fun row hr => (hok.2 row hr).2) (PyData.noDict_hsm hnd) hg (by omega) (fun _ _ e => e)
    (fun h' u tk hk => hQ h' u tk (F.keptAll hk) (N.grown hk)) (by have := reprOf_len hok; rw [sizeLine_eq]; unfold reprOf at this; omega)
end Mine
end
section
namespace Mine
/-- a turn's end: any ledger, apart from the iterator's own objects -/
def LEnd (h₀ : Heap) (L : Addr) (own : List (Addr × Obj)) (J : (Str → Option Value) → List (Addr × Obj) → Prop) (s₁ s₂ : Shared) : Prop :=
  ∃ h' tk m' nx, s₂ = { s₁ with heap := h', toks := tk } ∧ Fr h₀ L h' m' ∧ News h₀ L h' (nx ++ own) ∧ OwnOff own (nx.map (·.1)) ∧ J m' nx
def LPost (h₀ : Heap) (L : Addr) (own : List (Addr × Obj)) (J : (Str → Option Value) → List (Addr × Obj) → Prop) (s₁ : Shared) (Q : Flow → Shared → Prop) (f : Flow) (s₂ : Shared) : Prop :=
  match f with
  | .ret v => Q (.ret v) s₂
  | .brk => Q .next s₂
  | _ => LEnd h₀ L own J s₁ s₂
theorem lend {h₀ : Heap} {L : Addr} {own : List (Addr × Obj)} {J : (Str → Option Value) → List (Addr × Obj) → Prop} {s₁ : Shared} {Q : Flow → Shared → Prop} {h' : Heap} {tk : Nat} {m' : Str → Option Value} {all : List (Addr × Obj)} (nx : List (Addr × Obj))
    (F : Fr h₀ L h' m') (N : News h₀ L h' all) (sub : ∀ p ∈ nx ++ own, p ∈ all) (off : OwnOff own (nx.map (·.1))) (hJ : J m' nx) : LPost h₀ L own J s₁ Q .next { s₁ with heap := h', toks := tk } :=
  ⟨h', tk, m', nx, rfl, F, news_sub N sub, off, hJ⟩
theorem post_step {h₀ : Heap} {L : Addr} {fp : List Addr} {own : List (Addr × Obj)} {J : (Str → Option Value) → List (Addr × Obj) → Prop} {s₁ s₂ : Shared} {Q : Flow → Shared → Prop} {f : Flow}
    (hall : ∀ b ∈ fp, ∃ o, (b, o) ∈ own) (p : LPost h₀ L own J s₁ Q f s₂) : LoopStepV h₀ L fp own J s₁ (fun v s' => Q (.ret v) s') (fun s' => Q .next s') f s₂ := by
  have fin : LEnd h₀ L own J s₁ s₂ → LoopStepU h₀ L fp own J s₁ .next s₂ := by
    rintro ⟨h', tk, m', nx, e, F', N', off, hJ⟩
    refine ⟨rfl, h', tk, m', nx, e, F', fun p hp => N' p ((List.mem_append.mp hp).elim (fun h => List.mem_append.mpr (.inr h)) fun h => List.mem_append.mpr (.inl h)), fun p hp hI => ?_, hJ⟩
    obtain ⟨o, ho⟩ := hall _ hI
    exact off _ ho p.1 (List.mem_map.mpr ⟨p, hp, rfl⟩) rfl
  cases f with
  | ret v => exact .ret p
  | brk => exact .brk p
  | next => exact .next (fin p)
  | cont => exact .cont (fin p)
section
variable {prog : Program} {w : World} {A : Around} {E : Value → Shared → Prop} {s : Shared} {env : Env} {h₀ : Heap} {x : Str} {body : List Stmt} {Q : Flow → Shared → Prop}
theorem loop_J {I : Addr} {fp : List Addr} {n : Nat} {P : Nat → Value → Prop} {St : Nat → Heap → Prop} {m₀ : Str → Option Value} {news : List (Addr × Obj)} (J : Nat → (Str → Option Value) → List (Addr × Obj) → Prop)
    (W : Walks prog w A I fp fp n P St) (hIo : ∀ i h, St i h → ∀ b ∈ fp, ∃ o, h.get? b = some o) (hLf : env.locals ∉ fp) (hwr : ∀ b ∈ fp, h₀.get? b = none) (hfp : ∀ q ∈ news, q.1 ∉ fp) (hst : St 0 s.heap) (F : Fr h₀ env.locals s.heap m₀) (N : News h₀ env.locals s.heap news) (hj : J 0 m₀ news)
    (turn : ∀ i v m₁ nx h tk own, i < n → P i v → OwnOff own (nx.map (·.1)) → J i m₁ nx → Fr h₀ env.locals h (fun y => if y = x then some v else m₁ y) → News h₀ env.locals h (nx ++ own) →
      wpAny (model prog w) A (execs body env) (LPost h₀ env.locals own (J (i + 1)) { s with heap := h, toks := tk } Q) E { s with heap := h, toks := tk })
    (done : ∀ m₁ nx h tk, J n m₁ nx → Fr h₀ env.locals h m₁ → News h₀ env.locals h nx → Q .next { s with heap := h, toks := tk }) :
    LoopAtV prog w A h₀ env x body Q E (.ref I) s := by
  refine ⟨I, fp, fp, n, P, St, m₀, news, J, rfl, W, hLf, hwr, hfp, hst, F, N, hj, ?_, ?_⟩
  · rintro i v m₁ news₁ s₁ own ⟨hh', tk', rfl⟩ hin hP hJ hoff hown hget hall hst' F₁ N₁
    have hsep : OwnOff own (news₁.map (·.1)) := by
      intro p hp b hb e
      obtain ⟨q, hq, rfl⟩ := List.mem_map.mp hb
      exact hoff q hq (e ▸ hown p hp)
    have N₂ : News h₀ env.locals hh' (news₁ ++ own) := fun p hp => N₁ p ((List.mem_append.mp hp).elim (fun h => List.mem_append.mpr (.inr h)) fun h => List.mem_append.mpr (.inl h))
    refine wpAny_mono (turn i v m₁ news₁ hh' tk' own hin hP hsep hJ F₁ N₂) (fun f s₂ p => ?_) fun _ _ e => e
    refine post_step (fun b hb => ?_) p
    obtain ⟨o, ho⟩ := hIo _ _ hst' b hb
    exact ⟨o, hall b hb (hwr b hb) o ho⟩
  · intro h' tk m' news' F' N' _ hJ
    exact done m' news' h' tk hJ F' N'
/-- the octets of bytes, one by one -/
theorem bytes_J {b : Array UInt8} {tb : Tok} {m₀ : Str → Option Value} {news : List (Addr × Obj)} (J : Nat → (Str → Option Value) → List (Addr × Obj) → Prop)
    (hh : A.handled = none) (F : Fr h₀ env.locals s.heap m₀) (N : News h₀ env.locals s.heap news) (hj : J 0 m₀ news)
    (turn : ∀ i c u m₁ nx h tk own, b[i]? = some c → OwnOff own (nx.map (·.1)) → J i m₁ nx → Fr h₀ env.locals h (fun y => if y = x then some (.int (c.toNat : Int) u) else m₁ y) → News h₀ env.locals h (nx ++ own) →
      wpAny (model prog w) A (execs body env) (LPost h₀ env.locals own (J (i + 1)) { s with heap := h, toks := tk } Q) E { s with heap := h, toks := tk })
    (done : ∀ m₁ nx h tk, J b.size m₁ nx → Fr h₀ env.locals h m₁ → News h₀ env.locals h nx → Q .next { s with heap := h, toks := tk }) :
    wpAny (model prog w) A (pyIter (.bytes b tb)) (fun it s₂ => LoopAtV prog w A h₀ env x body Q E it s₂) E s := by
  refine KBw.pyIter_bytes ?_
  refine loop_J J (KBw.walks (prog := prog) (w := w) hh s.heap.objs.size b tb) ?_ ?_ ?_ ?_ ⟨_, Heap.get?_push_size _ rfl, rfl, rfl⟩ (F.push _) (fun p hp => ⟨Heap.get?_push_of_some _ (N p hp).1, (N p hp).2⟩) hj ?_ ?_
  · rintro i h ⟨o, ho, _⟩ b' hb
    rw [List.mem_singleton.mp hb]
    exact ⟨o, ho⟩
  · intro hm
    exact absurd F.ns.lt ((List.mem_singleton.mp hm) ▸ Nat.lt_irrefl _)
  · intro b' hb
    rw [List.mem_singleton.mp hb]
    exact next_is_new F
  · intro p hp hI
    exact absurd (Heap.lt_size (N p hp).1) ((List.mem_singleton.mp hI) ▸ Nat.lt_irrefl _)
  · rintro i v m₁ nx h tk own hi ⟨c, u, hc, rfl⟩ hoff hJ F₁ N₁
    exact turn i c u m₁ nx h tk own hc hoff hJ F₁ N₁
  · intro m₁ nx h tk hJ F₁ N₁
    exact done m₁ nx h tk hJ F₁ N₁
/-- range(n), n written or not -/
theorem range_J {r : Addr} {b : Int} {t u v : Tok} {n : Nat} {m₀ : Str → Option Value} {news : List (Addr × Obj)} (J : Nat → (Str → Option Value) → List (Addr × Obj) → Prop)
    (hh : A.handled = none) (F : Fr h₀ env.locals s.heap m₀) (N : News h₀ env.locals s.heap news) (hr : IsRange s.heap r 0 b 1 t u v) (hb : b = (n : Int)) (hsz : n ≤ 1000) (hj : J 0 m₀ news)
    (turn : ∀ i tv m₁ nx h tk own, i < n → OwnOff own (nx.map (·.1)) → J i m₁ nx → Fr h₀ env.locals h (fun y => if y = x then some (.int (i : Int) tv) else m₁ y) → News h₀ env.locals h (nx ++ own) →
      wpAny (model prog w) A (execs body env) (LPost h₀ env.locals own (J (i + 1)) { s with heap := h, toks := tk } Q) E { s with heap := h, toks := tk })
    (done : ∀ m₁ nx h tk, J n m₁ nx → Fr h₀ env.locals h m₁ → News h₀ env.locals h nx → Q .next { s with heap := h, toks := tk }) :
    wpAny (model prog w) A (pyIter (.ref r)) (fun it s₂ => LoopAtV prog w A h₀ env x body Q E it s₂) E s := by
  subst hb
  refine wpAny_pyIter_range hr (small_one (by decide) (by decide) (by omega) (by omega)) ?_
  refine loop_J J (LCg.range_walks (prog := prog) (w := w) (I := s.heap.objs.size) hh 0 n) ?_ ?_ ?_ ?_ (by show IsRangeIter _ _ _ _ _; rw [rangeSize_nat]; simpa using Heap.get?_push_size _ rfl) (F.push _) (fun p hp => ⟨Heap.get?_push_of_some _ (N p hp).1, (N p hp).2⟩) hj ?_ ?_
  · intro i h st b' hb
    rw [List.mem_singleton.mp hb]
    exact ⟨_, st⟩
  · intro hm
    exact absurd F.ns.lt ((List.mem_singleton.mp hm) ▸ Nat.lt_irrefl _)
  · intro b' hb
    rw [List.mem_singleton.mp hb]
    exact next_is_new F
  · intro p hp hI
    exact absurd (Heap.lt_size (N p hp).1) ((List.mem_singleton.mp hI) ▸ Nat.lt_irrefl _)
  · rintro i v m₁ nx h tk own hi hP hoff hJ F₁ N₁
    obtain ⟨tv, rfl⟩ := hP
    rw [Int.zero_add] at F₁
    exact turn i tv m₁ nx h tk own hi hoff hJ F₁ N₁
  · intro m₁ nx h tk hJ F₁ N₁
    exact done m₁ nx h tk hJ F₁ N₁
end
/-! enumerate over bytes -/
theorem nextOf_bytes_item {prog : Program} {w : World} {A : Around} {E : Value → Shared → Prop} {s : Shared} {b : Array UInt8} {t : Tok} {it : Addr} {i : Nat} {c : UInt8} {Q : Value → Shared → Prop} (hit : KBw.IsBytesIter s.heap it b t i) (hx : b[i]? = some c)
    (hQ : ∀ h', KBw.IsBytesIter h' it b t (i + 1) → Heap.SameBut it s.heap h' → Q (.int (c.toNat : Int) s.toks) { s with heap := h', toks := s.toks + 1 }) : wpAny (model prog w) A (Builtin.SmallTypes.nextOf (.ref it)) Q E s := by
  obtain ⟨o, ho, hc, hd⟩ := id hit
  unfold Builtin.SmallTypes.nextOf
  refine wpAny_bind (wpAny_callSpecial?_slot (name := Str.ofString "__next__") (KBw.iter_typeIs hit) KBw.slot_next
    (wpAny_call_entry KBw.slot_next (KBw.iter_typeIs hit) KBw.entry_next ?_ (KBw.args_next _)))
  show wpAny _ _ (field (.ref it) 0 >>= _) _ _ s
  refine wpAny_bind (wpAny_field ho hd (x := .bytes b t) rfl ?_)
  show wpAny _ _ (if (Value.bytes b t == Value.none) = true then _ else _) _ _ s
  rw [if_neg (show ¬ ((Value.bytes b t == Value.none) = true) from Bool.false_ne_true)]
  show wpAny _ _ (field (.ref it) 1 >>= _) _ _ s
  refine wpAny_bind (wpAny_field ho hd (x := .int i 0) rfl ?_)
  refine wpAny_bind (wpAny_of_eq (a := b) rfl ?_)
  simp only [Int.toNat_natCast, hx]
  refine wpAny_bind (wpAny_setField ho hd (by simp) (wpAny_bind (wpAny_mkInt (wpAny_pure ⟨_, rfl, wpAny_pure (hQ _ ?_ (Heap.SameBut.update ..))⟩))))
  exact ⟨_, Heap.get?_update_self _ ho (Obj.isFreed_of_fields (Obj.data_mapFields hd _)), (Obj.cls_mapFields ..).trans hc, by
    rw [Obj.data_mapFields hd]; simp [rawInt]⟩
theorem nextOf_bytes_end {prog : Program} {w : World} {A : Around} {E : Value → Shared → Prop} {s : Shared} {b : Array UInt8} {t : Tok} {it : Addr} {i : Nat} {Q : Value → Shared → Prop} (hh : A.handled = none) (hit : KBw.IsBytesIter s.heap it b t i) (hx : b[i]? = none)
    (hE : ∀ h' e, Heap.ExtBut it s.heap h' → (∃ o, h'.get? e = some o ∧ o.cls = .type "StopIteration") → E (.ref e) { s with heap := h' }) : wpAny (model prog w) A (Builtin.SmallTypes.nextOf (.ref it)) Q E s := by
  obtain ⟨o, ho, hc, hd⟩ := id hit
  unfold Builtin.SmallTypes.nextOf
  refine wpAny_bind (wpAny_callSpecial?_slot (name := Str.ofString "__next__") (KBw.iter_typeIs hit) KBw.slot_next
    (wpAny_call_entry KBw.slot_next (KBw.iter_typeIs hit) KBw.entry_next ?_ (KBw.args_next _)))
  show wpAny _ _ (field (.ref it) 0 >>= _) _ _ s
  refine wpAny_bind (wpAny_field ho hd (x := .bytes b t) rfl ?_)
  show wpAny _ _ (if (Value.bytes b t == Value.none) = true then _ else _) _ _ s
  rw [if_neg (show ¬ ((Value.bytes b t == Value.none) = true) from Bool.false_ne_true)]
  show wpAny _ _ (field (.ref it) 1 >>= _) _ _ s
  refine wpAny_bind (wpAny_field ho hd (x := .int i 0) rfl ?_)
  refine wpAny_bind (wpAny_of_eq (a := b) rfl ?_)
  simp only [Int.toNat_natCast, hx]
  refine wpAny_bind (wpAny_rule (wpAny_bind (wpAny_setField ho hd (by simp) ?_)))
  show wpAny _ _ (newExc (.type "StopIteration") [] >>= _) _ _ _
  refine wpAny_bind ?_
  simp only [newExc, newTuple]
  refine wpAny_bind (wpAny_newObj_type ?_ (by size_fits))
  refine wpAny_bind (m := firstArgMember _ _) (wpAny_of_eq (a := Value.none) (by first | rfl | (simp only [firstArgMember]; rfl)) ?_)
  refine wpAny_newObj_type ?_ (by size_fits)
  simp only [raiseNew]
  refine wpAny_bind (wpAny_handled ?_)
  first | rw [show A.in1.handled = none from hh] | rw [hh]
  refine wpAny_bind (wpAny_pure (wpAny_throw ?_))
  exact hE _ _ (((Heap.SameBut.update ..).extBut.push _).push _) ⟨_, Heap.get?_push_size _ rfl, rfl⟩
theorem draws_bytes {prog : Program} {w : World} {A : Around} (hh : A.handled = none) (it : Addr) (b : Array UInt8) (t : Tok) :
    Draws prog w A it [it] b.size (fun i v => ∃ c u, b[i]? = some c ∧ v = .int (c.toNat : Int) u) (fun i h => KBw.IsBytesIter h it b t i) where
  live := fun _ _ st => let ⟨o, ho, _⟩ := st; ⟨o, ho⟩
  frame := fun _ _ _ st hk => let ⟨o, ho, r⟩ := st; ⟨o, hk it (by simp) o ho, r⟩
  item := fun i s Q E hi st hQ => by
    refine nextOf_bytes_item st (c := b[i]) (by simp [hi]) fun h' hit' hs' => ?_
    exact hQ _ h' (s.toks + 1) ⟨_, _, by simp [hi], rfl⟩ hit' hs'
  done := fun s Q E st hE => nextOf_bytes_end hh st (by simp) hE
open AutoSeq1 (wpAny_loadPart')
set_option maxHeartbeats 1000000 in
theorem meets_enumerate_newB (b : Array UInt8) (t : Tok) :
    Meets (Builtin.«enumerate.__new__» ⟨[.type "enumerate", .bytes b t], []⟩) (fun _ R s =>
      R (.ok (.ret (.ref (s.heap.push { cls := .type "bytes_iterator", data := .fields #[.bytes b t, .int 0 0] }).objs.size)))
        { s with heap := (s.heap.push { cls := .type "bytes_iterator", data := .fields #[.bytes b t, .int 0 0] }).push { cls := .type "enumerate", data := .fields #[.none, .bool false, .ref s.heap.objs.size, rawInt 0, .none, .none] } }) :=
  .of_wp fun prog w A R s h => by
    obtain ⟨hp, g, d, tk, os⟩ := s
    have hsub := sub_enumerate
    wp_walk
    refine wpAny_stack_any fun st => wpAny_pure ?_
    split
    · rename_i c _ _ _ _ _
      cases (c == Value.type "enumerate")
      · wp_walk using KBw.pyIter_bytes
        exact ⟨_, rfl, h⟩
      · wp_walk using KBw.pyIter_bytes
        exact ⟨_, rfl, h⟩
    · wp_walk using KBw.pyIter_bytes
      exact ⟨_, rfl, h⟩
theorem call_enumerate_bytes {prog : Program} {w : World} {A : Around} {E : Value → Shared → Prop} {s : Shared} {b : Array UInt8} {t : Tok} {Q : Value → Shared → Prop}
    (h : ∀ h', IsEnum h' (s.heap.objs.size + 1) s.heap.objs.size 0 .none → KBw.IsBytesIter h' s.heap.objs.size b t 0 → h'.objs.size = s.heap.objs.size + 2 →
      (∀ b o, s.heap.get? b = some o → h'.get? b = some o) → Q (.ref (s.heap.objs.size + 1)) { s with heap := h' }) :
    wpAny (model prog w) A (call (.type "enumerate") [.bytes b t]) Q E s := by
  refine callType_new F.called_enumerate (by decide) (F.typeCall_enumerate_1 _) (F.newCall_enumerate_1 _) (fun obj => F.args_object_init_2 obj _) F.entry_enumerate_new
    (meets_enumerate_newB b t) ?_
  have hz : (s.heap.push { cls := .type "bytes_iterator", data := .fields #[.bytes b t, .int 0 0] }).objs.size = s.heap.objs.size + 1 := Heap.size_push ..
  show _ ∧ _
  rw [hz]
  have he : IsEnum ((s.heap.push { cls := .type "bytes_iterator", data := .fields #[.bytes b t, .int 0 0] }).push
      { cls := .type "enumerate", data := .fields #[.none, .bool false, .ref s.heap.objs.size, rawInt 0, .none, .none] }) (s.heap.objs.size + 1) s.heap.objs.size 0 .none := by
    have := Heap.get?_push_size (s.heap.push { cls := .type "bytes_iterator", data := .fields #[.bytes b t, .int 0 0] })
      (o := { cls := .type "enumerate", data := .fields #[.none, .bool false, .ref s.heap.objs.size, rawInt 0, .none, .none] }) rfl
    rw [hz] at this; exact this
  refine ⟨⟨_, he, rfl⟩, h _ he ⟨_, Heap.get?_push_of_some _ (Heap.get?_push_size _ rfl), rfl, rfl⟩ (by rw [Heap.size_push, hz]) fun b o y => Heap.get?_push_of_some _ (Heap.get?_push_of_some _ y)⟩
section
variable {prog : Program} {w : World} {A : Around} {E : Value → Shared → Prop} {s : Shared} {env : Env} {h₀ : Heap} {body : List Stmt} {Q : Flow → Shared → Prop}
theorem enum_J {elts : List Expr} {kk : Nat} {pos : Pos} {b : Array UInt8} {tb : Tok} {m₀ : Str → Option Value} {news : List (Addr × Obj)} (J : Nat → (Str → Option Value) → List (Addr × Obj) → Prop)
    (hh : A.handled = none) (F : Fr h₀ env.locals s.heap m₀) (N : News h₀ env.locals s.heap news) (hj : J 0 m₀ news)
    (turn : ∀ (i : Nat) (c : UInt8) T t u m₁ nx h tk own, b[i]? = some c → IsTup h T #[.int (i : Int) t, .int (c.toNat : Int) u] → OwnOff own (nx.map (·.1)) → J i m₁ nx → Fr h₀ env.locals h m₁ → News h₀ env.locals h (nx ++ own) →
      wpAny (model prog w) A (assign (.Tuple elts kk pos) env (.ref T)) (fun _ s₃ => wpAny (model prog w) A (execs body env) (LPost h₀ env.locals own (J (i + 1)) { s with heap := h, toks := tk } Q) E s₃) E { s with heap := h, toks := tk })
    (done : ∀ m₁ nx h tk, J b.size m₁ nx → Fr h₀ env.locals h m₁ → News h₀ env.locals h nx → Q .next { s with heap := h, toks := tk }) :
    wpAny (model prog w) A (call (.type "enumerate") [.bytes b tb]) (fun xv s₁ => wpAny (model prog w) A (pyIter xv) (fun it s₂ => TurnsAt prog w A h₀ env (.Tuple elts kk pos) body Q E it s₂) E s₁) E s := by
  have hLs : env.locals < s.heap.objs.size := F.ns.lt
  refine call_enumerate_bytes fun h' hE hI hsz hk => ?_
  refine wpAny_pyIter_enum hE ?_
  have W := KTurns.ofWalksU (elts := elts) (k := kk) (pos := pos) (WalksT.enumerateD (draws_bytes (prog := prog) (w := w) (A := A.in1) hh s.heap.objs.size b tb) (s.heap.objs.size + 1) (Nat.succ_ne_self _) (by
    intro hm; exact Nat.succ_ne_self _ (List.mem_singleton.mp hm)) (by simp)).toU
  have hnew : ∀ b ∈ [s.heap.objs.size + 1, s.heap.objs.size], h₀.get? b = none := by
    intro b' hb
    have hb' : b' = s.heap.objs.size + 1 ∨ b' = s.heap.objs.size := by simpa using hb
    rcases hb' with rfl | rfl
    · exact ktu_new F (Nat.le_add_right _ _)
    · exact ktu_new F (Nat.le_refl _)
  have hLf : env.locals ∉ [s.heap.objs.size + 1, s.heap.objs.size] := by
    intro hm
    have hb' : env.locals = s.heap.objs.size + 1 ∨ env.locals = s.heap.objs.size := by simpa using hm
    rcases hb' with e | e
    · exact ktu_ne 1 hLs e
    · exact Nat.ne_of_lt hLs e
  refine ⟨_, _, _, _, _, _, _, m₀, news, J, rfl, W, hLf, hnew, ?_, ⟨⟨.none, hE⟩, hI⟩, F.keeps hk, N.grown hk, hj, ?_, ?_⟩
  · intro p hp hI'
    have hb' : p.1 = s.heap.objs.size + 1 ∨ p.1 = s.heap.objs.size := by simpa using hI'
    have hlp := Heap.lt_size (N p hp).1
    rcases hb' with e | e
    · exact ktu_ne 1 hlp e
    · exact Nat.ne_of_lt hlp e
  · rintro i v m₁ news₁ h₁ tk₁ own hin ⟨T, vals, rfl, ⟨t, x, ⟨c, u, hc, rfl⟩, rfl⟩, hT⟩ hJ hoff hown hget hall hst₁ F₁ N₁
    have hsep : OwnOff own (news₁.map (·.1)) := by
      intro p hp b hb e
      obtain ⟨q, hq, rfl⟩ := List.mem_map.mp hb
      exact hoff q hq (e ▸ hown p hp)
    have N₂ : News h₀ env.locals h₁ (news₁ ++ own) := fun p hp => N₁ p ((List.mem_append.mp hp).elim (fun h => List.mem_append.mpr (.inr h)) fun h => List.mem_append.mpr (.inl h))
    refine wpAny_mono (turn i c T t u m₁ news₁ h₁ tk₁ own hc hT hsep hJ F₁ N₂) (fun _ s₂ h₂ => wpAny_mono h₂ (fun f s₃ p => ?_) fun _ _ e => e) fun _ _ e => e
    refine post_step (fun b' hb => ?_) p
    obtain ⟨⟨old, he⟩, ⟨o2, ho2, _⟩⟩ := hst₁
    have hb' : b' = s.heap.objs.size + 1 ∨ b' = s.heap.objs.size := by simpa using hb
    rcases hb' with rfl | rfl
    · exact ⟨_, hall _ hb (hnew _ hb) _ he⟩
    · exact ⟨_, hall _ hb (hnew _ hb) _ ho2⟩
  · intro h' tk m' news' F' N' _ hJ
    exact done m' news' h' tk hJ F' N'
end
end Mine
end
section
namespace Mine
section
variable {prog : Program} {w : World} {A : Around} {E : Value → Shared → Prop} {s : Shared} {env : Env} {h₀ : Heap} {x : Str} {body : List Stmt} {Q : Flow → Shared → Prop}
/-- a list of the ledger, item by item; it stays in the ledger -/
theorem list_J {ax : Addr} {vs : List Value} {k : Nat} {m₀ : Str → Option Value} {news : List (Addr × Obj)} (J : Nat → (Str → Option Value) → List (Addr × Obj) → Prop)
    (hh : A.handled = none) (F : Fr h₀ env.locals s.heap m₀) (N : News h₀ env.locals s.heap news) (hm : (ax, listOf vs.toArray k) ∈ news) (hj : J 0 m₀ news)
    (hkeep : ∀ i m nx, J i m nx → (ax, listOf vs.toArray k) ∈ nx)
    (turn : ∀ i v m₁ nx h tk I it, vs[i]? = some v → (∀ p ∈ nx, @Ne Nat p.1 I) → J i m₁ nx → Fr h₀ env.locals h (fun y => if y = x then some v else m₁ y) → News h₀ env.locals h (nx ++ [(I, it)]) →
      wpAny (model prog w) A (execs body env) (LPost h₀ env.locals [(I, it)] (J (i + 1)) { s with heap := h, toks := tk } Q) E { s with heap := h, toks := tk })
    (done : ∀ m₁ nx h tk, J vs.length m₁ nx → Fr h₀ env.locals h m₁ → News h₀ env.locals h nx → Q .next { s with heap := h, toks := tk }) :
    wpAny (model prog w) A (pyIter (.ref ax)) (fun it s₂ => LoopAtV prog w A h₀ env x body Q E it s₂) E s := by
  have hax := N _ hm
  have hls : s.heap.IsList ax vs.toArray := ⟨_, hax.1, rfl, k, rfl⟩
  have hlt : ax < s.heap.objs.size := Heap.lt_size hax.1
  have hne : ax ≠ s.heap.objs.size := Nat.ne_of_lt hlt
  refine wpAny_pyIter_list hls ?_
  have W := Walks.list (prog := prog) (w := w) hh s.heap.objs.size ax hne vs.toArray
  rw [List.size_toArray] at W
  refine ⟨_, _, _, vs.length, _, _, m₀, news, J, rfl, W, ?_, ?_, ?_, ⟨⟨_, Heap.get?_push_size _ rfl, rfl, rfl⟩, hls.at fun o e => Heap.get?_push_of_some _ e⟩, F.push _, (fun p hp => ⟨Heap.get?_push_of_some _ (N p hp).1, (N p hp).2⟩), hj, ?_, ?_⟩
  · intro hm'
    rcases List.mem_cons.mp hm' with e | hm'
    · exact absurd F.ns.lt (e ▸ Nat.lt_irrefl _)
    · exact hax.2.1 (List.mem_singleton.mp hm').symm
  · intro b hb
    rw [List.mem_singleton.mp hb]
    exact next_is_new F
  · intro p hp hI
    exact absurd (Heap.lt_size (N p hp).1) ((List.mem_singleton.mp hI) ▸ Nat.lt_irrefl _)
  · rintro i v m₁ news₁ s₁ own ⟨hh', tk', rfl⟩ hin hP hJ hoff hown hget hall hst' F₁ N₁
    have hit : ∃ it, hh'.get? s.heap.objs.size = some it := by
      obtain ⟨⟨o, ho, _⟩, _⟩ := hst'
      exact ⟨o, ho⟩
    obtain ⟨it, hit⟩ := hit
    have hio := hall s.heap.objs.size (.head _) (next_is_new F) it hit
    have hsep : ∀ p ∈ news₁, @Ne Nat p.1 s.heap.objs.size := fun p hp e => hoff p hp (by rw [show p.1 = s.heap.objs.size from e]; exact .head _)
    have hv : vs[i]? = some v := by simpa using hP
    have N₂ : News h₀ env.locals hh' (news₁ ++ [(s.heap.objs.size, it)]) := fun p hp => (List.mem_append.mp hp).elim (fun h => N₁ p (List.mem_append.mpr (.inr h))) fun h => by
      rw [List.mem_singleton.mp h]; exact N₁ _ (List.mem_append.mpr (.inl hio))
    refine wpAny_mono (turn i v m₁ news₁ hh' tk' _ it hv hsep hJ F₁ N₂) (fun f s₂ p => ?_) fun _ _ e => e
    have fin : LEnd h₀ env.locals [(s.heap.objs.size, it)] (J (i + 1)) { s with heap := hh', toks := tk' } s₂ → LoopStepU h₀ env.locals [s.heap.objs.size] own (J (i + 1)) { s with heap := hh', toks := tk' } .next s₂ := by
      rintro ⟨h', tk, m', nx, e, F', N', off, hJ'⟩
      refine ⟨rfl, h', tk, m', nx, e, F', fun p hp => ?_, fun p hp hI => ?_, hJ'⟩
      · rcases List.mem_append.mp hp with hp | hp
        · have hg := hget p hp
          rcases List.mem_cons.mp (hown p hp) with e1 | e1
          · have e2 : p = (s.heap.objs.size, it) := by
              obtain ⟨pa, po⟩ := p
              have e1' : pa = s.heap.objs.size := e1
              subst e1'
              have hg' : hh'.get? s.heap.objs.size = some po := hg
              rw [hit] at hg'
              rw [Option.some.inj hg']
            rw [e2]
            exact N' _ (List.mem_append.mpr (.inr (.head _)))
          · have e1' := List.mem_singleton.mp e1
            have hl := (N₁ _ (List.mem_append.mpr (.inr (hkeep _ _ _ hJ)))).1
            have e2 : p = (ax, listOf vs.toArray k) := by
              obtain ⟨pa, po⟩ := p
              have e3 : pa = ax := e1'
              subst e3
              have hg' : hh'.get? pa = some po := hg
              have hl' : hh'.get? pa = some (listOf vs.toArray k) := hl
              rw [hl'] at hg'
              rw [Option.some.inj hg']
            rw [e2]
            exact N' _ (List.mem_append.mpr (.inl (hkeep _ _ _ hJ')))
        · exact N' p (List.mem_append.mpr (.inl hp))
      · exact off _ (.head _) p.1 (List.mem_map.mpr ⟨p, hp, rfl⟩) (List.mem_singleton.mp hI).symm
    cases f with
    | ret v => exact .ret p
    | brk => exact .brk p
    | next => exact .next (fin p)
    | cont => exact .cont (fin p)
  · intro h' tk m' news' F' N' _ hJ
    exact done m' news' h' tk hJ F' N'
end
end Mine
end
section
open PyProof.Rows.LCg
namespace Mine
section
variable {prog : Program} {w : World} {A : Around} {E : Value → Shared → Prop} {s : Shared} {h₀ : Heap} {L : Addr} {m : Str → Option Value} {env : Env}
/-- a turn's end that leaves objects behind -/
def End2 (h₀ : Heap) (L : Addr) (m : Str → Option Value) (s₁ : Shared) (I : Addr) (oI : Obj) (C : Addr) (oC : Obj) (D : Addr) (oD : Obj) (S : List (Addr × Obj) → Prop) (r : Value → List (Addr × Obj) → Prop) (y : Value) (s₂ : Shared) : Prop :=
  CompEnd h₀ L m s₁ I oI C oC D oD S r y s₂
theorem end2 {s₁ : Shared} {I C D : Addr} {oI oC oD : Obj} {S : List (Addr × Obj) → Prop} {r : Value → List (Addr × Obj) → Prop} {y : Value} {h' : Heap} {tk : Nat} {all nw : List (Addr × Obj)} (tl : List (Addr × Obj))
    (F : Fr h₀ L h' m) (N : News h₀ L h' all) (sub : ∀ p ∈ (I, oI) :: (C, oC) :: (D, oD) :: (tl ++ nw), p ∈ all) (offn : Off3 I C D nw) (offt : ∀ p ∈ tl, p.1 ≠ I ∧ p.1 ≠ C ∧ p.1 ≠ D) (hS : S (tl ++ nw)) (hr : r y (tl ++ nw)) :
    End2 h₀ L m s₁ I oI C oC D oD S r y { s₁ with heap := h', toks := tk } := comp_end tl F N sub offn offt hS hr
theorem src_ledgerA {elt : Expr} {x yy : Str} {scope : Scope} {cl : List (Str × Addr)} {Q : Flow → Shared → Prop} {ax : Addr} {vs : List Value} {k : Nat} {news : List (Addr × Obj)} (J : Nat → List Value → List (Addr × Obj) → Prop)
    (hh : A.handled = none) (F : Fr h₀ L s.heap m) (N : News h₀ L s.heap news) (hm : (ax, listOf vs.toArray k) ∈ news) (hsz : vs.length ≤ sizeLine) (h0 : J 0 [] news)
    (turn : ∀ i v ys nw I oI C oC D m₂ h tk (E' : Value → Shared → Prop), i < vs.length → J i ys nw → SrcAt h₀ ax vs.toArray nw → vs[i]? = some v → NsObj oC m₂ → m₂ x = some v → Fr h₀ L h m → News h₀ L h ((I, oI) :: (C, oC) :: (D, lst ys) :: nw) → Off3 I C D nw → ((@Ne Nat I C) ∧ (@Ne Nat I D) ∧ (@Ne Nat C D)) →
      wpAny (model prog w) A (eval elt (compEnvC scope cl C env)) (End2 h₀ L m { s with heap := h, toks := tk } I oI C oC D (lst ys) (SrcAt h₀ ax vs.toArray) (fun y nw' => J (i + 1) (ys ++ [y]) nw')) E' { s with heap := h, toks := tk })
    (fin : ∀ ys D h tk nw, J vs.length ys nw → Fr h₀ L h (fun z => if z = yy then some (.ref D) else m z) → News h₀ L h ((D, listOf ys.toArray ys.length) :: nw) → Off1 D nw → Q .next { s with heap := h, toks := tk }) :
    CompSrc prog w A h₀ L m env elt x scope cl (fun s₂ => FinA h₀ L m s₂ yy Q) (.ref ax) s := by
  refine CompSrc.ledger hh F N hm (by rw [List.size_toArray]; exact hsz) fun g => ?_
  rw [List.size_toArray]
  refine rest_J vs.length J ?_ ?_ vs.length 0 [] news (Nat.zero_add _) h0 (.inr ⟨_, hm, rfl, _, rfl⟩)
  · intro i v ys nw I oI C oC D m₂ h tk E' hi hJ hS hP hC hx F' N' off ne
    exact turn i v ys nw I oI C oC D m₂ h tk E' hi hJ hS (by simpa using hP) hC hx F' N' off ne
  · intro ys nw hJ D h tk F' N' o1
    exact fin ys D h tk nw hJ F' N' o1
theorem src_ledger2 {elt : Expr} {x : Str} {scope : Scope} {cl : List (Str × Addr)} {Q : Value → Shared → Prop} {ax : Addr} {vs : List Value} {k : Nat} {news : List (Addr × Obj)} (J : Nat → List Value → List (Addr × Obj) → Prop)
    (hh : A.handled = none) (F : Fr h₀ L s.heap m) (N : News h₀ L s.heap news) (hm : (ax, listOf vs.toArray k) ∈ news) (hsz : vs.length ≤ sizeLine) (h0 : J 0 [] news)
    (turn : ∀ i v ys nw I oI C oC D m₂ h tk (E' : Value → Shared → Prop), i < vs.length → J i ys nw → SrcAt h₀ ax vs.toArray nw → vs[i]? = some v → NsObj oC m₂ → m₂ x = some v → Fr h₀ L h m → News h₀ L h ((I, oI) :: (C, oC) :: (D, lst ys) :: nw) → Off3 I C D nw → ((@Ne Nat I C) ∧ (@Ne Nat I D) ∧ (@Ne Nat C D)) →
      wpAny (model prog w) A (eval elt (compEnvC scope cl C env)) (End2 h₀ L m { s with heap := h, toks := tk } I oI C oC D (lst ys) (SrcAt h₀ ax vs.toArray) (fun y nw' => J (i + 1) (ys ++ [y]) nw')) E' { s with heap := h, toks := tk })
    (fin : ∀ ys D h tk nw, J vs.length ys nw → Fr h₀ L h m → News h₀ L h ((D, listOf ys.toArray ys.length) :: nw) → Off1 D nw → Q (.ref D) { s with heap := h, toks := tk }) :
    CompSrc prog w A h₀ L m env elt x scope cl (fun s₂ => FinE h₀ L m s₂ Q) (.ref ax) s := src_ledger J hh F N hm hsz h0 turn fin
end
end Mine
end
section
open PyProof.Rows.LCg PyProof.Rows.LCt
namespace Mine
section
variable {prog : Program} {w : World} {A : Around} {E : Value → Shared → Prop} {s : Shared} {h₀ : Heap} {L : Addr} {m : Str → Option Value} {env : Env}
/-- the source: octets, with a test -/
def SrcBT (prog : Program) (w : World) (A : Around) (h₀ : Heap) (L : Addr) (m : Str → Option Value) (env : Env) (ct elt : Expr) (x : Str) (scope : Scope) (cl : List (Str × Addr)) (Q : Value → Shared → Prop) (xv : Value) (s₁ : Shared) : Prop :=
  ∃ b t news, xv = .bytes b t ∧ A.handled = none ∧ Fr h₀ L s₁.heap m ∧ News h₀ L s₁.heap news ∧ b.size ≤ sizeLine ∧
    ∀ s₂ : Shared, (∃ h, s₂ = { s₁ with heap := h }) → CompRestT prog w A h₀ L m env ct elt x scope cl s₂ (fun _ => True) (fun i v => ∃ c u, b[i]? = some c ∧ v = .int (c.toNat : Int) u) (FinE h₀ L m s₂ Q) b.size 0 [] news
theorem bytes_st {I : Addr} {b : Array UInt8} {t : Tok} : ∀ i (h h' : Heap) (o : Obj) (nw : List (Addr × Obj)), KBw.IsBytesIter h I b t i → h.get? I = some o → h'.get? I = some o → (∀ b o, h₀.get? b = some o → h'.get? b = some o) → News h₀ L h' nw → True → KBw.IsBytesIter h' I b t i :=
  fun i h h' o nw st e e' _ _ _ => by
    obtain ⟨o', q, r⟩ := st
    rw [e] at q
    exact ⟨o, e', by cases q; exact r⟩
theorem listComp_BT {ct elt iter : Expr} {x : Str} {px : Pos} {scope : Scope} {cl : List (Str × Addr)} {pos : Pos} {Q : Value → Shared → Prop} (F₀ : Fr h₀ L s.heap m)
    (hclos : closureFor scope env = pure cl) (hcell : ∀ y ∈ scope.names, y.2 ≠ .cell) (hkind : scope.kind = .function)
    (hnames : ∀ y ∈ scope.names, y.2 = .local → scope.names.lookup y.1 = some .local) (hx : scope.names.lookup x = some .local)
    (h : wpAny (model prog w) A (eval iter env) (SrcBT prog w A h₀ L m env ct elt x scope cl Q) E s)
    (hs : ∀ x, foldedSetIterable iter env x = pure x := by intro _; rfl) :
    wpAny (model prog w) A (eval (.ListComp elt [⟨.Name x px, iter, [ct], 0⟩] scope pos) env) Q E s := by
  rw [eval_ListComp]
  refine wpAny_comprehension_free (use := none) rfl hs hclos hkind hnames (wpAny_mono h (fun xv s₁ h₁ => ?_) fun _ _ e => e)
  obtain ⟨b, t, news, rfl, hh, F, N, hsz, R⟩ := h₁
  refine KBw.pyIter_bytes ?_
  refine block_T (KBw.walks (prog := prog) (w := w) hh s₁.heap.objs.size b t) hsz (fun i h st => by obtain ⟨o, e, _⟩ := st; exact ⟨o, e⟩) bytes_st hcell hkind hx ⟨_, Heap.get?_push_size _ rfl, rfl, rfl⟩ (fun b' hb => ?_)
    (F.keeps fun _ _ e => Heap.get?_push_of_some _ e) (N.grown fun _ _ e => Heap.get?_push_of_some _ e) (Nat.ne_of_lt F.ns.lt) (next_is_new F) (fun p hp => Nat.ne_of_lt (Heap.lt_size (N p hp).1)) trivial (R _ ⟨_, rfl⟩) ?_
  · rw [List.mem_singleton.mp hb]
    show s₁.heap.objs.size < (s₁.heap.push _).objs.size
    rw [Heap.size_push]; exact Nat.lt_succ_self _
  · intro D C h tk m' ys news' F' N' o1 hn hC₀ hD₀ hCL hDL hCD offC fin
    refine ⟨m', hn, fun h'' hs'' => fin D h'' tk (F'.change hs'' hCL hC₀) (fun p hp => ?_) o1⟩
    refine ⟨hs''.extBut _ _ ?_ (N' p hp).1, (N' p hp).2⟩
    rcases List.mem_cons.mp hp with rfl | hp
    · exact Ne.symm hCD
    · exact offC p hp
theorem src_bytesT {ct elt : Expr} {x : Str} {scope : Scope} {cl : List (Str × Addr)} {Q : Value → Shared → Prop} {b : Array UInt8} {tb : Tok} {news : List (Addr × Obj)} (J : Nat → List Value → Prop)
    (hh : A.handled = none) (F : Fr h₀ L s.heap m) (N : News h₀ L s.heap news) (hsz : b.size ≤ sizeLine) (h0 : J 0 [])
    (turn : ∀ i c u ys I oI C oC D m₂ h tk (E' : Value → Shared → Prop), b[i]? = some c → J i ys → NsObj oC m₂ → m₂ x = some (.int (c.toNat : Int) u) → Fr h₀ L h m → News h₀ L h ((I, oI) :: (C, oC) :: (D, lst ys) :: news) → Off3 I C D news → ((@Ne Nat I C) ∧ (@Ne Nat I D) ∧ (@Ne Nat C D)) →
      wpAny (model prog w) A (isTrue ct (compEnvC scope cl C env) (eval ct (compEnvC scope cl C env))) (fun ok s' => if ok = true then
        wpAny (model prog w) A (eval elt (compEnvC scope cl C env)) (End1 h₀ L m { s with heap := h, toks := tk } I oI C oC D (lst ys) news (fun y => J (i + 1) (ys ++ [y]))) E' s'
        else End1 h₀ L m { s with heap := h, toks := tk } I oI C oC D (lst ys) news (fun _ => J (i + 1) ys) Value.none s') E' { s with heap := h, toks := tk })
    (fin : ∀ ys D h tk, J b.size ys → Fr h₀ L h m → News h₀ L h ((D, listOf ys.toArray ys.length) :: news) → Off1 D news → Q (.ref D) { s with heap := h, toks := tk }) :
    SrcBT prog w A h₀ L m env ct elt x scope cl Q (.bytes b tb) s := by
  refine ⟨b, tb, news, rfl, hh, F, N, hsz, ?_⟩
  rintro s₂ ⟨g, rfl⟩
  have key : ∀ k i ys, i + k = b.size → J i ys → CompRestT prog w A h₀ L m env ct elt x scope cl { s with heap := g } (fun _ => True) (fun i v => ∃ c u, b[i]? = some c ∧ v = .int (c.toNat : Int) u) (FinE h₀ L m { s with heap := g } Q) k i ys news := by
    intro k
    induction k with
    | zero =>
      intro i ys e hJ
      refine CompRestT.zero fun D h tk F' N' o1 => ?_
      exact fin ys D h tk (by rw [Nat.add_zero] at e; exact e ▸ hJ) F' N' o1
    | succ k ih =>
      intro i ys e hJ
      refine CompRestT.succ fun v I oI C oC D m₂ h tk E' hP hC hx F N off ne => ?_
      obtain ⟨c, u, hc, rfl⟩ := hP
      refine wpAny_mono (turn i c u ys I oI C oC D m₂ h tk E' hc hJ hC hx F N off ne) (fun ok s₄ h₄ => ?_) fun _ _ z => z
      cases ok with
      | true =>
        simp only [if_true] at h₄ ⊢
        refine wpAny_mono h₄ (fun y s₅ h₅ => ?_) fun _ _ z => z
        exact compEnd_mono (fun nw' _ hJ' => by obtain ⟨rfl, hJ'⟩ := hJ'; exact ih (i + 1) _ (by omega) hJ') (end1_to off trivial h₅)
      | false =>
        simp only [Bool.false_eq_true, if_false] at h₄ ⊢
        exact compEnd_mono (fun nw' _ hJ' => by obtain ⟨rfl, hJ'⟩ := hJ'; exact ih (i + 1) _ (by omega) hJ') (end1_to off trivial h₄)
  exact key b.size 0 [] (Nat.zero_add _) h0

/-- the source: an ASCII text -/
def SrcS (prog : Program) (w : World) (A : Around) (h₀ : Heap) (L : Addr) (m : Str → Option Value) (env : Env) (elt : Expr) (x : Str) (scope : Scope) (cl : List (Str × Addr)) (Q : Value → Shared → Prop) (xv : Value) (s₁ : Shared) : Prop :=
  ∃ b t news, xv = .str b t ∧ A.handled = none ∧ Fr h₀ L s₁.heap m ∧ News h₀ L s₁.heap news ∧ b.cps.size ≤ sizeLine ∧ b.cps.all (· < 128) = true ∧
    ∀ s₂ : Shared, (∃ h, s₂ = { s₁ with heap := h }) → CompRest prog w A h₀ L m env elt x scope cl s₂ (fun _ => True) (fun i v => ∃ c u, b.cps[i]? = some c ∧ v = .str ⟨#[c]⟩ u) (FinE h₀ L m s₂ Q) b.cps.size 0 [] news
theorem str_st {I : Addr} {b : Str} {t : Tok} : ∀ i (h h' : Heap) (o : Obj) (nw : List (Addr × Obj)), h.IsStrIter I "str_ascii_iterator" b t i → h.get? I = some o → h'.get? I = some o → (∀ b o, h₀.get? b = some o → h'.get? b = some o) → News h₀ L h' nw → True → h'.IsStrIter I "str_ascii_iterator" b t i :=
  fun i h h' o nw st e e' _ _ _ => by
    obtain ⟨o', q, r⟩ := st
    rw [e] at q
    exact ⟨o, e', by cases q; exact r⟩
theorem listComp_S {elt iter : Expr} {x : Str} {px : Pos} {scope : Scope} {cl : List (Str × Addr)} {pos : Pos} {Q : Value → Shared → Prop} (F₀ : Fr h₀ L s.heap m)
    (hclos : closureFor scope env = pure cl) (hcell : ∀ y ∈ scope.names, y.2 ≠ .cell) (hkind : scope.kind = .function)
    (hnames : ∀ y ∈ scope.names, y.2 = .local → scope.names.lookup y.1 = some .local) (hx : scope.names.lookup x = some .local)
    (h : wpAny (model prog w) A (eval iter env) (SrcS prog w A h₀ L m env elt x scope cl Q) E s)
    (hs : ∀ x, foldedSetIterable iter env x = pure x := by intro _; rfl) :
    wpAny (model prog w) A (eval (.ListComp elt [⟨.Name x px, iter, [], 0⟩] scope pos) env) Q E s := by
  rw [eval_ListComp]
  refine wpAny_comprehension_free (use := none) rfl hs hclos hkind hnames (wpAny_mono h (fun xv s₁ h₁ => ?_) fun _ _ e => e)
  obtain ⟨b, t, news, rfl, hh, F, N, hsz, ha, R⟩ := h₁
  refine wpAny_pyIter_ascii ha ?_
  refine block_U (Walks.strAscii (prog := prog) (w := w) hh s₁.heap.objs.size b t) hsz (fun i h st => by obtain ⟨o, e, _⟩ := st; exact ⟨o, e⟩) str_st hcell hkind hx ⟨_, Heap.get?_push_size _ rfl, rfl, rfl⟩ (fun b' hb => ?_)
    (F.keeps fun _ _ e => Heap.get?_push_of_some _ e) (N.grown fun _ _ e => Heap.get?_push_of_some _ e) (Nat.ne_of_lt F.ns.lt) (next_is_new F) (fun p hp => Nat.ne_of_lt (Heap.lt_size (N p hp).1)) trivial (R _ ⟨_, rfl⟩) ?_
  · rw [List.mem_singleton.mp hb]
    show s₁.heap.objs.size < (s₁.heap.push _).objs.size
    rw [Heap.size_push]; exact Nat.lt_succ_self _
  · intro D C h tk m' ys news' F' N' o1 hn hC₀ hD₀ hCL hDL hCD offC fin
    refine ⟨m', hn, fun h'' hs'' => fin D h'' tk (F'.change hs'' hCL hC₀) (fun p hp => ?_) o1⟩
    refine ⟨hs''.extBut _ _ ?_ (N' p hp).1, (N' p hp).2⟩
    rcases List.mem_cons.mp hp with rfl | hp
    · exact Ne.symm hCD
    · exact offC p hp
theorem src_str {elt : Expr} {x : Str} {scope : Scope} {cl : List (Str × Addr)} {Q : Value → Shared → Prop} {b : Str} {tb : Tok} {news : List (Addr × Obj)} (J : Nat → List Value → Prop)
    (hh : A.handled = none) (F : Fr h₀ L s.heap m) (N : News h₀ L s.heap news) (hsz : b.cps.size ≤ sizeLine) (ha : b.cps.all (· < 128) = true) (h0 : J 0 [])
    (turn : ∀ i c u ys I oI C oC D m₂ h tk (E' : Value → Shared → Prop), b.cps[i]? = some c → J i ys → NsObj oC m₂ → m₂ x = some (.str ⟨#[c]⟩ u) → Fr h₀ L h m → News h₀ L h ((I, oI) :: (C, oC) :: (D, lst ys) :: news) → Off3 I C D news → ((@Ne Nat I C) ∧ (@Ne Nat I D) ∧ (@Ne Nat C D)) →
      wpAny (model prog w) A (eval elt (compEnvC scope cl C env)) (End1 h₀ L m { s with heap := h, toks := tk } I oI C oC D (lst ys) news (fun y => J (i + 1) (ys ++ [y]))) E' { s with heap := h, toks := tk })
    (fin : ∀ ys D h tk, J b.cps.size ys → Fr h₀ L h m → News h₀ L h ((D, listOf ys.toArray ys.length) :: news) → Off1 D news → Q (.ref D) { s with heap := h, toks := tk }) :
    SrcS prog w A h₀ L m env elt x scope cl Q (.str b tb) s := by
  refine ⟨b, tb, news, rfl, hh, F, N, hsz, ha, ?_⟩
  rintro s₂ ⟨g, rfl⟩
  have key : ∀ k i ys, i + k = b.cps.size → J i ys → CompRest prog w A h₀ L m env elt x scope cl { s with heap := g } (fun _ => True) (fun i v => ∃ c u, b.cps[i]? = some c ∧ v = .str ⟨#[c]⟩ u) (FinE h₀ L m { s with heap := g } Q) k i ys news := by
    intro k
    induction k with
    | zero =>
      intro i ys e hJ
      refine CompRest.zero fun D h tk F' N' o1 => ?_
      exact fin ys D h tk (by rw [Nat.add_zero] at e; exact e ▸ hJ) F' N' o1
    | succ k ih =>
      intro i ys e hJ
      refine CompRest.succ fun v I oI C oC D m₂ h tk E' hP hC hx F N off ne => ?_
      obtain ⟨c, u, hc, rfl⟩ := hP
      refine wpAny_mono (turn i c u ys I oI C oC D m₂ h tk E' hc hJ hC hx F N off ne) (fun y s₅ h₅ => ?_) fun _ _ z => z
      exact compEnd_mono (fun nw' _ hJ' => by obtain ⟨rfl, hJ'⟩ := hJ'; exact ih (i + 1) _ (by omega) hJ') (end1_to off trivial h₅)
  exact key b.cps.size 0 [] (Nat.zero_add _) h0
end
end Mine
end
section
namespace Mine
open PySem.Builtin
/-! cutting -/
def splitL {α : Type} [DecidableEq α] (c : α) : List α → List (List α)
  | [] => [[]]
  | x :: xs => if x = c then [] :: splitL c xs else
    match splitL c xs with
    | [] => [[x]]
    | p :: r => (x :: p) :: r
theorem splitL_ne {α : Type} [DecidableEq α] (c : α) (l : List α) : splitL c l ≠ [] := by
  cases l with
  | nil => simp [splitL]
  | cons x xs =>
    rw [splitL]
    split
    · simp
    · split <;> simp
def btw {α : Type} (l : List α) : Nat → List Nat → List (List α)
  | k, [] => [l.drop k]
  | k, p :: r => ((l.take p).drop k) :: btw l (p + 1) r
theorem btw_back {α : Type} {l : List α} {k : Nat} {x : α} (hx : l[k]? = some x) : ∀ {ps : List Nat}, (∀ p ∈ ps, k + 1 ≤ p) → ∃ q r, btw l (k + 1) ps = q :: r ∧ btw l k ps = (x :: q) :: r
  | [], _ => ⟨_, _, rfl, by rw [btw]; rw [List.drop_eq_getElem_cons (List.getElem?_eq_some_iff.mp hx).1, (List.getElem?_eq_some_iff.mp hx).2]⟩
  | p :: r, h => by
    refine ⟨_, _, rfl, ?_⟩
    rw [btw]
    congr 1
    have hp := h p (.head _)
    have hx' : (l.take p)[k]? = some x := by rw [List.getElem?_take_of_lt (by omega)]; exact hx
    rw [List.drop_eq_getElem_cons (List.getElem?_eq_some_iff.mp hx').1, (List.getElem?_eq_some_iff.mp hx').2]
theorem btw_split {α : Type} [DecidableEq α] (c : α) (l : List α) : ∀ n k, k + n = l.length → btw l k ((List.range' k n).filter fun i => l[i]? = some c) = splitL c (l.drop k) := by
  intro n
  induction n with
  | zero =>
    intro k h
    rw [Nat.add_zero] at h
    rw [h, List.drop_length]
    show [l.drop l.length] = _
    rw [List.drop_length]; rfl
  | succ n ih =>
    intro k h
    have hk : k < l.length := by omega
    have hx : l[k]? = some l[k] := List.getElem?_eq_getElem hk
    rw [List.range'_succ, List.filter_cons, List.drop_eq_getElem_cons hk, splitL]
    have ih' := ih (k + 1) (by omega)
    by_cases e : l[k] = c
    · rw [if_pos (by rw [hx, e]; simp), if_pos e, btw, ih']
      have : (l.take k).drop k = [] := by simp
      rw [this]
    · rw [if_neg (by rw [hx]; simpa using e), if_neg e]
      obtain ⟨q, r, h1, h2⟩ := btw_back (ps := (List.range' (k + 1) n).filter fun i => l[i]? = some c) hx (fun p hp => by
        have := (List.mem_range'.mp (List.mem_filter.mp hp).1)
        omega)
      rw [h2]
      rw [← ih', h1]
theorem occ_eq (b : Array UInt8) (c : UInt8) : Bytes.occurrences b #[c] 0 b.size = (List.range' 0 b.size).filter fun i => b.toList[i]? = some c := by
  have hcond : ∀ i, i < b.size → ((b.extract i (i + 1) == #[c]) = decide (b.toList[i]? = some c)) := by
    intro i hi
    have e1 : b.extract i (i + 1) = #[b[i]] := by
      apply Array.ext
      · simp; omega
      · intro j h1 h2
        have : j = 0 := by simp at h2; omega
        subst this
        simp
    rw [e1]
    have e2 : b.toList[i]? = some b[i] := by simp [hi]
    rw [e2]
    by_cases h : b[i] = c
    · simp [h]
    · simp [h]
  have key : ∀ (l : List Nat) (acc : List Nat) (free : Nat), (∀ i ∈ l, free ≤ i ∧ i < b.size) → l.Pairwise (· < ·) →
      (l.foldl (fun (acc : List Nat × Nat) (i : Nat) => if (decide (i ≥ acc.2) && b.extract i (i + (#[c] : Array UInt8).size) == #[c]) = true then (i :: acc.1, i + (#[c] : Array UInt8).size) else acc) (acc, free)).1.reverse = acc.reverse ++ l.filter fun i => b.toList[i]? = some c := by
    intro l
    induction l with
    | nil => intro acc free _ _; simp
    | cons i l ih =>
      intro acc free h1 h2
      have hi := h1 i (.head _)
      rw [List.foldl_cons, List.filter_cons]
      have hc := hcond i hi.2
      have e3 : (decide (i ≥ free) && b.extract i (i + (#[c] : Array UInt8).size) == #[c]) = decide (b.toList[i]? = some c) := by
        show (decide (i ≥ free) && b.extract i (i + 1) == #[c]) = _
        rw [hc]; simp [hi.1]
      have hl : ∀ j ∈ l, i + 1 ≤ j ∧ j < b.size := fun j hj => ⟨by have := (List.pairwise_cons.mp h2).1 j hj; omega, (h1 j (.tail _ hj)).2⟩
      simp only [e3]
      by_cases h : b.toList[i]? = some c
      · rw [if_pos (by simpa using h), if_pos (by simpa using h)]
        show (List.foldl _ (i :: acc, i + 1) l).1.reverse = _
        rw [ih (i :: acc) (i + 1) hl (List.pairwise_cons.mp h2).2]
        simp
      · rw [if_neg (by simpa using h), if_neg (by simpa using h)]
        exact ih acc free (fun j hj => ⟨by have := hl j hj; omega, (hl j hj).2⟩) (List.pairwise_cons.mp h2).2
  have e0 : ((List.range (b.size + 1 - (0 + (#[c] : Array UInt8).size))).map (· + 0)) = List.range' 0 b.size := by
    rw [show b.size + 1 - (0 + (#[c] : Array UInt8).size) = b.size by simp, List.range_eq_range']
    simp
  show ((((List.range (b.size + 1 - (0 + (#[c] : Array UInt8).size))).map (· + 0)).foldl _ ([], 0)).1.reverse) = _
  rw [e0]
  have := key (List.range' 0 b.size) [] 0 (fun i hi => by have := List.mem_range'.mp hi; omega) (by
    rw [← List.range_eq_range']; exact List.pairwise_lt_range)
  simpa using this
theorem between_eq (b : Array UInt8) (places : List Nat) : (Bytes.between b 1 places).map (·.toList) = btw b.toList 0 places := by
  have key : ∀ (ps : List Nat) (parts : Array (Array UInt8)) (last : Nat),
      ((((ps.foldl (fun (x : Array (Array UInt8) × Nat) p => (x.1.push (b.extract x.2 p), p + 1)) (parts, last)).1.push
        (b.extract (ps.foldl (fun (x : Array (Array UInt8) × Nat) p => (x.1.push (b.extract x.2 p), p + 1)) (parts, last)).2 b.size)).toList).map (·.toList)) = parts.toList.map (·.toList) ++ btw b.toList last ps := by
    intro ps
    induction ps with
    | nil =>
      intro parts last
      simp [btw, List.drop_take]
      exact List.take_of_length_le (by rw [List.length_drop, Array.length_toList]; exact Nat.le_refl _)
    | cons p ps ih =>
      intro parts last
      rw [List.foldl_cons, ih]
      simp [btw, List.drop_take]
  have := key places #[] 0
  show (((places.foldl (fun (x : Array (Array UInt8) × Nat) p => (x.1.push (b.extract x.2 p), p + 1)) (#[], 0)).1.push
        (b.extract (places.foldl (fun (x : Array (Array UInt8) × Nat) p => (x.1.push (b.extract x.2 p), p + 1)) (#[], 0)).2 b.size)).toList).map (·.toList) = _
  exact this
theorem pieces_eq (b : Array UInt8) (c : UInt8) : (pieces b c).map (·.toList) = splitL c b.toList := by
  unfold pieces
  rw [between_eq, occ_eq, List.take_of_length_le, btw_split c b.toList b.size 0 (by simp), List.drop_zero]
  refine Nat.le_trans (List.length_filter_le _ _) ?_
  rw [List.length_range']; omega
theorem splitL_map {α β : Type} [DecidableEq α] [DecidableEq β] (f : α → β) (hf : ∀ a b, f a = f b → a = b) (c : α) : ∀ l : List α, (splitL c l).map (·.map f) = splitL (f c) (l.map f)
  | [] => rfl
  | x :: xs => by
    have ih := splitL_map f hf c xs
    rw [splitL, List.map_cons, splitL]
    by_cases e : x = c
    · rw [if_pos e, if_pos (by rw [e]), List.map_cons, ih]; rfl
    · rw [if_neg e, if_neg fun h => e (hf _ _ h), ← ih]
      cases h : splitL c xs with
      | nil => rfl
      | cons p r => rfl
theorem byte_inj (a b : UInt8) (h : (a.toNat : Int) = b.toNat) : a = b := by
  apply UInt8.toNat_inj.mp; omega
theorem pieces_octs (b : Array UInt8) (c : UInt8) : (pieces b c).map octs = splitL (c.toNat : Int) (octs b) := by
  have e : (fun (b : Array UInt8) => octs b) = (fun l : List UInt8 => l.map fun c => (c.toNat : Int)) ∘ fun b : Array UInt8 => b.toList := rfl
  show (pieces b c).map (fun b => octs b) = _
  rw [e, ← List.map_map, pieces_eq]
  exact splitL_map _ byte_inj c b.toList
theorem splitL_mem {α : Type} [DecidableEq α] (c : α) : ∀ (l : List α) (p : List α), p ∈ splitL c l → ∀ x ∈ p, x ∈ l ∧ x ≠ c
  | [], p, hp, x, hx => by rw [List.mem_singleton.mp hp] at hx; cases hx
  | y :: ys, p, hp, x, hx => by
    rw [splitL] at hp
    have ih := splitL_mem c ys
    by_cases e : y = c
    · rw [if_pos e] at hp
      rcases List.mem_cons.mp hp with rfl | hp
      · cases hx
      · have := ih p hp x hx
        exact ⟨.tail _ this.1, this.2⟩
    · rw [if_neg e] at hp
      cases h : splitL c ys with
      | nil => exact absurd h (splitL_ne c ys)
      | cons q r =>
        rw [h] at hp ih
        dsimp only at hp
        rcases List.mem_cons.mp hp with rfl | hp
        · rcases List.mem_cons.mp hx with rfl | hx
          · exact ⟨.head _, e⟩
          · have := ih q (.head _) x hx
            exact ⟨.tail _ this.1, this.2⟩
        · have := ih p (.tail _ hp) x hx
          exact ⟨.tail _ this.1, this.2⟩
theorem splitL_len {α : Type} [DecidableEq α] (c : α) : ∀ (l : List α), (splitL c l).length ≤ l.length + 1 ∧ ∀ p ∈ splitL c l, p.length ≤ l.length
  | [] => ⟨Nat.le_refl _, fun p hp => by rw [List.mem_singleton.mp hp]; exact Nat.le_refl _⟩
  | y :: ys => by
    have ih := splitL_len c ys
    rw [splitL]
    by_cases e : y = c
    · rw [if_pos e]
      refine ⟨by rw [List.length_cons, List.length_cons]; omega, fun p hp => ?_⟩
      rcases List.mem_cons.mp hp with rfl | hp
      · exact Nat.zero_le _
      · have := ih.2 p hp; rw [List.length_cons]; omega
    · rw [if_neg e]
      cases h : splitL c ys with
      | nil => exact absurd h (splitL_ne c ys)
      | cons q r =>
        rw [h] at ih
        dsimp only
        refine ⟨by rw [List.length_cons] at ih ⊢; rw [List.length_cons]; omega, fun p hp => ?_⟩
        rcases List.mem_cons.mp hp with rfl | hp
        · have := ih.2 q (.head _); rw [List.length_cons, List.length_cons]; omega
        · have := ih.2 p (.tail _ hp); rw [List.length_cons]; omega
/-! the octets that count -/
def plainL (l : List Int) : List Int := l.filter fun c => decide (48 ≤ c ∧ c ≤ 59)
def plainB (l : List UInt8) : List (Array UInt8) := (l.filter fun c => decide (48 ≤ (c.toNat : Int) ∧ (c.toNat : Int) ≤ 59)).map fun c => #[c]
def plainA (b : Array UInt8) : Array UInt8 := Bytes.joined #[] (plainB b.toList)
theorem joinL_nil (l : List UInt8) : joinL [] (l.map fun c => [c]) = l := by
  cases l with
  | nil => rfl
  | cons x l =>
    rw [List.map_cons, joinL_cons, List.map_map]
    have h : ∀ l : List UInt8, (l.map fun c => [c]).flatten = l := by
      intro l
      induction l with
      | nil => rfl
      | cons y l ih => rw [List.map_cons, List.flatten_cons, ih]; rfl
    show [x] ++ (l.map fun c => [c]).flatten = x :: l
    rw [h]; rfl
theorem plainA_octs (b : Array UInt8) : octs (plainA b) = plainL (octs b) := by
  unfold plainA octs plainL
  rw [joined_list, plainB, List.map_map]
  have : ((fun x : Array UInt8 => x.toList) ∘ fun c : UInt8 => #[c]) = fun c => [c] := rfl
  rw [this, show (#[] : Array UInt8).toList = [] from rfl, joinL_nil, List.filter_map]
  rfl
end Mine
end
namespace Mine
local macro_rules | `(tactic| units_room) => `(tactic| first | decide | with_reducible assumption | rfl | ((with_reducible refine roomG ‹_› ?_); first | exact room1 ‹_› | exact room0 ‹_› | exact roomu ‹_› | exact room2 ‹_› | exact room3 ‹_›))
local macro_rules | `(tactic| k_units) => `(tactic| units_room)
local macro_rules | `(tactic| k_room) => `(tactic| units_room)
local macro_rules | `(tactic| k_all) => `(tactic| with_reducible assumption)
local macro_rules | `(tactic| k_ne) => `(tactic| with_reducible first | assumption | exact Ne.symm ‹_›)
local macro_rules | `(tactic| k_mem) => `(tactic| (refine memN ?_; ktr_member))
local macro_rules | `(tactic| size_fits) => `(tactic| ((try simp only [List.size_toArray, List.length_append, List.length_cons, List.length_nil]); (try rw [sizeLine_eq]); omega))
local macro_rules | `(tactic| kmk_size) => `(tactic| size_fits)
local macro_rules | `(tactic| walk_at $s) => do
  let t ← match s.getString with
    | "subscriptTail" => `(tactic| first | refine go_item ‹_› ?_ | (refine at_item ?_; k_dflt (refine my_item (by k_asm) (by k_mem) (by units_room) (by units_room) (by units_room) ?_ (by with_unfolding_all rfl); k_whole)))
    | "subscriptTail Name Call ref int" => `(tactic| refine go_item ‹_› ?_)
    | "call builtin:len" => `(tactic| (refine at_len ?_; k_dflt (refine my_len (by k_asm) (by k_mem) (by omega) ?_; k_whole)))
    | "eval ListComp" => `(tactic| first | refine Stop.at 4 ‹_› ?_ | k_dflt (refine LCg.ListComp_U (F₀ := ‹_›) (by rfl) (by decide) (by rfl) (by decide) (by rfl) ?_))
    | "eval Name" => `(tactic| (refine at_name ?_; k_dflt (refine ld_cell (by k_asm) (by rfl) (by k_mem) ‹_› (by rfl) (by rfl) (by decide) ?_; k_whole)))
    | "CompSrc" | "call builtin:bytes.join" | "call builtin:bytes.split" => `(tactic| refine Stop.go ?_)
    | "getMethod bytes" => `(tactic| first | refine meth_split ?_ | refine meth_join ?_)
    | "call ref" => `(tactic| first | refine go_ref ‹_› ?_ | refine Stop.at 1 ‹_› ?_)
    | "callWith ref" => `(tactic| refine call0 ‹_› ‹_› (by k_is) ?_)
    | "exec If" => `(tactic| refine go_if ‹_› ?_)
    | "eval Compare" => `(tactic| refine go_cmp ‹_› ?_)
    | "compareOp NotEq bool bool" | "compareOp NotEq str str" | "compareOp NotEq bytes bytes" => `(tactic| first | refine same_bool ?_ | refine same_str ?_ | refine same_bytes ?_)
    | x =>
      let n := match x with
        | "exec While Compare cons nil" | "pyIter bytes" | "pyIter ref" | "exec For Tuple Call cons nil" | "call builtin:repr" | "call type:enumerate" => 3
        | "exec For Name Name cons nil" => 10
        | "isTrue Compare" => 5
        | "eval IfExp" => 6
        | "compareOp NotEq ref ref" => 8
        | "compareOp Eq ref ref" => 9
        | _ => 0
      if n == 0 then `(tactic| fail) else `(tactic| refine Stop.at $(Lean.quote n) ‹_› ?_)
  `(tactic| with_reducible $t:tactic)
variable (w : World) {loose : List Str} {mean : ExcName → Option Value} {mg mb : Str → Option Value} {dp un : Nat} {gd : Option (List Code)} {cn : Str} {cs : Scope} {L a : Addr} {ccd : Value} {cl : List (Str × Addr)} {outer : List Env} {A₀ : Around} {base h₀ : Heap} {m : Str → Option Value} {s : Shared} {Q E : Value → Shared → Prop}

section
theorem draw_walk
   {d c : Addr} {o : Obj} {ns : List Int} {vs : List Value} {nn : Nat} {mx many : Int} {tm tk : Tok} {rest : List (Addr × Obj)}
   (B : Below A₀ base outer h₀) (F : Fr h₀ L s.heap m) (X : (Mine.hd.heap_39 w.params).In h₀) (N : News h₀ L s.heap ((d, o) :: (c, listOf vs.toArray nn) :: rest))
   (D : o.IsDictOf (PySem.strKind PySem.Challenge.rw_np0269_01.row.prog w) [(Str.ofString "cells", .ref c), (Str.ofString "mixed", .int mx tm)])
   (T : Top Mine.hd.view_39 loose mean mg mb h₀) (hk : cs.kind = .function) (hdp : dp + 10 < recursionLimit) (hun : un + 200 < cLine)
   (hI : IntsAre vs ns) (hdc : @Ne Nat d c) (hdr : ∀ p ∈ rest, p.1 ≠ d) (hcr : ∀ p ∈ rest, p.1 ≠ c) (hns : ns.length ≤ 64) (hmx : 0 ≤ mx) (hmx2 : mx < 2147483647) (hm0 : 0 < many) (hm1 : many < 100)
   (ret : ∀ k t o' mx' tm' vs' ns' nn' h' tk', Fr h₀ L h' m → News h₀ L h' ((d, o') :: (c, listOf vs'.toArray nn') :: rest) →
     o'.IsDictOf (PySem.strKind PySem.Challenge.rw_np0269_01.row.prog w) [(Str.ofString "cells", .ref c), (Str.ofString "mixed", .int mx' tm')] → IntsAre vs' ns' → ns'.length ≤ 64 →
     0 ≤ mx' → mx' < 2147483647 → 0 ≤ k → k < many → Q (.int k t) { s with heap := h', toks := tk' }) :
   wpAny (model PySem.Challenge.rw_np0269_01.row.prog w) (ktrTop dp un gd cn cs L a ccd cl outer) (call (.ref 128) [.ref d, .int many tk]) Q E s := by
  w_top off
  revert X; k_fill; intro X
  refine wpAny_call ?_
  have st12 : Stops 12 := .mk
  have hll := hI.length
  by_cases hne : ns = []
  · subst hne
    cases hI
    k_dflt (refine code_def (binds := [(Str.ofString "deck", .ref d), (Str.ofString "many", .int many tk)]) B F X N T rfl rfl hk (by k_is) (by k_is) (by k_room) (BindsTo.of_eq rfl) (locs rfl) ?_ rfl rfl rfl (by decide))
    intro g L' h₁ FG F' N' B' X' T'
    (try dsimp only); (try k_fold)
    k_steps
    rename_i kF kN Tc kX
    exact ret _ _ _ _ _ [] [] _ _ _ kF (news_sub kN fun p hp => .tail _ hp) (by assumption) .nil (by simp) (fmod_in _ (by decide)).1 (fmod_in _ (by decide)).2 (fmod_in _ hm0).1 (fmod_in _ hm0).2
  · have hpos : 0 < vs.length := by
      rw [hll]; exact List.length_pos_iff.mpr hne
    k_dflt (refine code_def (binds := [(Str.ofString "deck", .ref d), (Str.ofString "many", .int many tk)]) B F X N T rfl rfl hk (by k_is) (by k_is) (by k_room) (BindsTo.of_eq rfl) (locs rfl) ?_ rfl rfl rfl (by decide))
    intro g L' h₁ FG F' N' B' X' T'
    (try dsimp only); (try k_fold)
    k_steps
    rename_i kF kN Tc kX
    exact ret _ _ _ _ _ _ _ _ _ _ kF (news_sub kN fun p hp => .tail _ hp) D (by assumption) (by rw [List.length_dropLast]; omega) hmx hmx2 (fmod_in _ hm0).1 (fmod_in _ hm0).2
end
section
theorem deck_walk {l : Addr} {vs : List Value} {ns : List Int} {news : List (Addr × Obj)}
   (B : Below A₀ base outer h₀) (F : Fr h₀ L s.heap m) (X : (Mine.hd.heap_39 w.params).In h₀) (N : News h₀ L s.heap news)
   (T : Top Mine.hd.view_39 loose mean mg mb h₀) (hk : cs.kind = .function) (hdp : dp + 10 < recursionLimit) (hun : un + 200 < cLine)
   (hl : h₀.IsList l vs.toArray) (hI : IntsAre vs ns) (hlay : PyData.layable0 (PyData.list (ns.map PyData.int)) = true)
   (ret : ∀ d c o mx tm us nn ms h' tk', Fr h₀ L h' m → News h₀ L h' ((d, o) :: (c, listOf us.toArray nn) :: news) → (@Ne Nat d c) → (∀ p ∈ news, p.1 ≠ d) → (∀ p ∈ news, p.1 ≠ c) →
     o.IsDictOf (PySem.strKind PySem.Challenge.rw_np0269_01.row.prog w) [(Str.ofString "cells", .ref c), (Str.ofString "mixed", .int mx tm)] → IntsAre us ms → ms.length ≤ 64 →
     0 ≤ mx → mx < 2147483647 → Q (.ref d) { s with heap := h', toks := tk' }) :
   wpAny (model PySem.Challenge.rw_np0269_01.row.prog w) (ktrTop dp un gd cn cs L a ccd cl outer) (call (.ref 121) [.ref l]) Q E s := by
  w_top off
  revert X; k_fill; intro X
  refine wpAny_call ?_
  have st12 : Stops 12 := .mk
  k_dflt (refine code_def (binds := [(Str.ofString "script", .ref l)]) B F X N T rfl rfl hk (by k_is) (by k_is) (by k_room) (BindsTo.of_eq rfl) (locs rfl) ?_ rfl rfl rfl (by decide))
  intro g L' h₁ FG F' N' B' X' T'
  (try dsimp only); (try k_fold)
  have hl' : g.IsList l vs.toArray := hl.at fun o e => FG.keep l o e
  k_steps
  refine Stop.of ?_
  rename Fr _ _ _ _ => F1; rename News _ _ _ _ => N1; rename IntsAre _ (List.take _ _) => hIt
  refine src_ledger1 (fun i ys => ∃ ms, IntsAre ys ms ∧ ms.length = i) rfl F1 N1 (.head _) ?_ ⟨[], .nil, rfl⟩ ?_ ?_
  · rw [sizeLine_eq, hIt.length, List.length_take]; omega
  · clear F1 N1
    rintro i v ys I oI C oC D m₂ h tk E' hi ⟨ms, hms, hml⟩ hv hC hx F2 N2 off ne
    obtain ⟨nv, tv, rfl, _⟩ := IntsAre.at hIt _ _ hv
    (try k_unmd); (try k_fold)
    k_steps
    exact end1 F2 N2 (fun p h => h) ⟨ms ++ [nv], hms.append (.cons _ _ .nil), by simp [hml]⟩
  · clear F1 N1
    rintro ys D h' tk' ⟨ms, hms, hml⟩ F2 N2 o1
    k_with "pyIter ref" => k_state (fun pre x => 0 ≤ x ∧ x < 1000003) "mixed"
    k_steps
    rename_i Tc kX
    rename _ ∧ _ ∧ _ ∧ _ ∧ AllLt _ news => l1b
    rename _ ∧ _ ∧ _ ∧ AllLt _ news => l1a
    rename Obj.IsDictOf _ _ (strPairs _) => hDD
    rename News h₀ L _ _ => kN
    exact ret _ _ _ _ _ _ _ _ _ _ (by assumption) (news_sub kN (fun p hp => by
        simp only [List.mem_cons] at hp ⊢
        rcases hp with hp | hp | hp
        · exact .inr (.inl hp)
        · exact .inl hp
        · exact .inr (.inr (.inr (.inr (.inr hp))))))
      (Nat.ne_of_lt l1b.1) (fun p hp => Nat.ne_of_lt (tb_ltOf l1a.2.2.2 p hp)) (fun p hp => Nat.ne_of_lt (tb_ltOf l1b.2.2.2.2 p hp)) hDD (by assumption)
      (by rw [List.length_reverse, hml, hIt.length, List.length_take]; omega) (by assumption) (by omega)
end
section
def plainOf (rows : List (List (Option Int))) (k d : Int) : Int := match rows[k.toNat]? with
  | some (some i :: _) => i
  | _ => d
theorem plain_walk {r : Addr} {vs : List Value} {nr : Nat} {news l9 : List (Addr × Obj)} {rows : List (List (Option Int))} {k d : Int} {tk td : Tok}
   (B : Below A₀ base outer h₀) (F : Fr h₀ L s.heap m) (X : (Mine.hd.heap_39 w.params).In h₀) (N : News h₀ L s.heap news)
   (T : Top Mine.hd.view_39 loose mean mg mb h₀) (hk : cs.kind = .function) (hdp : dp + 10 < recursionLimit) (hun : un + 200 < cLine)
   (hr : (r, listOf vs.toArray nr) ∈ news) (hD : DatAll l9 vs (rows.map rowD)) (hs : ∀ p ∈ l9, p ∈ news) (h0 : 0 ≤ k) (h1 : k < 2 ^ 63) (hlen : rows.length < 1000)
   (ret : ∀ t h' tk', Fr h₀ L h' m → News h₀ L h' news → Q (.int (plainOf rows k d) t) { s with heap := h', toks := tk' }) :
   wpAny (model PySem.Challenge.rw_np0269_01.row.prog w) (ktrTop dp un gd cn cs L a ccd cl outer) (call (.ref 103) [.ref r, .int k tk, .int d td]) Q E s := by
  w_top off
  revert X; k_fill; intro X
  refine wpAny_call ?_
  have st12 : Stops 12 := .mk
  have st9 : Stops 9 := .mk
  have hvl := hD.length
  rw [List.length_map] at hvl
  k_dflt (refine code_def (binds := [(Str.ofString "params", .ref r), (Str.ofString "at", .int k tk), (Str.ofString "default", .int d td)]) B F X N T rfl rfl hk (by k_is) (by k_is) (by k_room) (BindsTo.of_eq rfl) (locs rfl) ?_ rfl rfl rfl (by decide))
  intro g L' h₁ FG F' N' B' X' T'
  (try dsimp only); (try k_fold)
  by_cases hge : (rows.length : Int) ≤ k
  · have hge' : (vs.length : Int) ≤ k := by omega
    k_steps
    rename_i kF kN Tc kX
    have e : plainOf rows k d = d := by
      unfold plainOf
      rw [List.getElem?_eq_none (by omega)]
    exact e ▸ ret _ _ _ kF kN
  · have hlt : k.toNat < (rows.map rowD).length := by rw [List.length_map]; omega
    obtain ⟨v, hv, hvD⟩ := hD.get hlt
    rw [List.getElem_map] at hvD
    obtain ⟨a1, us, n1, rfl, hm1, hu⟩ := row_in hvD
    have hm1' := hs _ hm1
    have hro : rows[k.toNat]? = some (rows[k.toNat]'(by simpa using hlt)) := List.getElem?_eq_getElem _
    cases hrow : rows[k.toNat]'(by simpa using hlt) with
    | nil =>
      rw [hrow] at hu
      have hu0 := hu
      cases hu
      k_steps
      refine Stop.of ?_
      k_dflt (refine' my_eq_nil (us := _) ?N ?a hu0 ?e (vDs_ok 8 _) ?n ?_; (case N => k_asm); (case a => assumption); (case e => first | assumption | exact fun q hq => absurd hq List.not_mem_nil); (case n => units_room); k_whole)
      simp only [List.map_nil, List.map_cons, decide_true, decide_false, reduceCtorEq]
      k_steps
      rename_i kF kN Tc kX
      have e : plainOf rows k d = d := by
        unfold plainOf
        rw [hro, hrow]
      exact e ▸ ret _ _ _ kF (news_sub kN fun p hp => .tail _ hp)
    | cons x row =>
      rw [hrow] at hu
      have hu0 := hu
      cases hu with
      | cons hu1 hu2 =>
      cases x with
      | none =>
        have := v_none hu1
        subst this
        k_steps
        refine Stop.of ?_
        k_dflt (refine' my_eq_nil (us := _) ?N ?a hu0 ?e (vDs_ok 8 _) ?n ?_; (case N => k_asm); (case a => assumption); (case e => first | assumption | exact fun q hq => absurd hq List.not_mem_nil); (case n => units_room); k_whole)
        simp only [List.map_nil, List.map_cons, decide_true, decide_false, reduceCtorEq]
        k_steps
        rename_i kF kN Tc kX
        have e : plainOf rows k d = d := by
          unfold plainOf
          rw [hro, hrow]
        exact e ▸ ret _ _ _ kF (news_sub kN fun p hp => .tail _ hp)
      | some i =>
        obtain ⟨ti, rfl⟩ := v_some hu1
        k_steps
        refine Stop.of ?_
        k_dflt (refine' my_eq_nil (us := _) ?N ?a hu0 ?e (vDs_ok 8 _) ?n ?_; (case N => k_asm); (case a => assumption); (case e => first | assumption | exact fun q hq => absurd hq List.not_mem_nil); (case n => units_room); k_whole)
        simp only [List.map_nil, List.map_cons, decide_true, decide_false, reduceCtorEq]
        k_steps
        rename_i kF kN Tc kX
        have e : plainOf rows k d = i := by
          unfold plainOf
          rw [hro, hrow]
        exact e ▸ ret _ _ _ kF (news_sub kN fun p hp => .tail _ hp)
end
section
section
theorem value_walk {r : Addr} {vs : List Value} {nr : Nat} {news l9 : List (Addr × Obj)} {rows : List (List (Option Int))} {k d : Int} {tk td : Tok}
   (B : Below A₀ base outer h₀) (F : Fr h₀ L s.heap m) (X : (Mine.hd.heap_39 w.params).In h₀) (N : News h₀ L s.heap news)
   (T : Top Mine.hd.view_39 loose mean mg mb h₀) (hk : cs.kind = .function) (hdp : dp + 20 < recursionLimit) (hun : un + 300 < cLine)
   (hr : (r, listOf vs.toArray nr) ∈ news) (hD : DatAll l9 vs (rows.map rowD)) (hs : ∀ p ∈ l9, p ∈ news) (h0 : 0 ≤ k) (h1 : k < 2 ^ 63) (hlen : rows.length < 1000)
   (ret : ∀ v t h' tk', v = (if plainOf rows k 0 = 0 then d else plainOf rows k 0) → Fr h₀ L h' m → News h₀ L h' news → Q (.int v t) { s with heap := h', toks := tk' }) :
   wpAny (model PySem.Challenge.rw_np0269_01.row.prog w) (ktrTop dp un gd cn cs L a ccd cl outer) (call (.ref 110) [.ref r, .int k tk, .int d td]) Q E s := by
  w_top off
  revert X; k_fill; intro X
  refine wpAny_call ?_
  have st12 : Stops 12 := .mk
  have st103 : Stops 103 := .mk
  k_dflt (refine code_def (binds := [(Str.ofString "params", .ref r), (Str.ofString "at", .int k tk), (Str.ofString "default", .int d td)]) B F X N T rfl rfl hk (by k_is) (by k_is) (by k_room) (BindsTo.of_eq rfl) (locs rfl) ?_ rfl rfl rfl (by decide))
  intro g L' h₁ FG F' N' B' X' T'
  (try dsimp only); (try k_fold)
  k_steps
  refine Stop.of ?_
  rename Fr _ _ _ _ => F1; rename News _ _ _ _ => N1
  k_dflt (refine plain_walk w (d := 0) (k := k) B' F1 X' N1 T' rfl (by k_room) (by k_units) hr hD hs h0 h1 hlen ?_)
  clear F1 N1
  intro t h' tk' F2 N2
  k_steps
  · rename_i kF kN Tc kX
    rename plainOf rows k 0 = 0 => hz
    exact ret _ _ _ _ (by rw [if_pos hz]) kF kN
  · rename_i kF kN Tc kX
    rename plainOf rows k 0 ≠ 0 => hz
    exact ret _ _ _ _ (by rw [if_neg hz]) kF kN
end

def atOf (rows : List (List (Option Int))) (k d : Int) (b : Bool) : Int := match rows[k.toNat]? with
  | some (some i :: _) => if b = true ∧ i = 0 then d else i
  | _ => d
theorem at_walk {r : Addr} {vs : List Value} {nr : Nat} {news l9 : List (Addr × Obj)} {rows : List (List (Option Int))} {k d : Int} {bb : Bool} {tk td : Tok}
   (B : Below A₀ base outer h₀) (F : Fr h₀ L s.heap m) (X : (Mine.hd.heap_39 w.params).In h₀) (N : News h₀ L s.heap news)
   (T : Top Mine.hd.view_39 loose mean mg mb h₀) (hk : cs.kind = .function) (hdp : dp + 20 < recursionLimit) (hun : un + 300 < cLine)
   (hr : (r, listOf vs.toArray nr) ∈ news) (hD : DatAll l9 vs (rows.map rowD)) (hs : ∀ p ∈ l9, p ∈ news) (h0 : 0 ≤ k) (h1 : k < 2 ^ 63) (hlen : rows.length < 1000) (hne : ∀ r ∈ rows, r ≠ [])
   (ret : ∀ v t h' tk', v = atOf rows k d bb → Fr h₀ L h' m → News h₀ L h' news → Q (.int v t) { s with heap := h', toks := tk' }) :
   wpAny (model PySem.Challenge.rw_np0269_01.row.prog w) (ktrTop dp un gd cn cs L a ccd cl outer) (call (.ref 152) [.ref r, .int k tk, .int d td, .bool bb]) Q E s := by
  w_top off
  revert X; k_fill; intro X
  refine wpAny_call ?_
  have st12 : Stops 12 := .mk
  have st103 : Stops 103 := .mk
  have hvl := hD.length
  rw [List.length_map] at hvl
  k_dflt (refine code_def (binds := [(Str.ofString "rows", .ref r), (Str.ofString "at", .int k tk), (Str.ofString "default", .int d td), (Str.ofString "is_nought_none", .bool bb)]) B F X N T rfl rfl hk (by k_is) (by k_is) (by k_room) (BindsTo.of_eq rfl) (locs rfl) ?_ rfl rfl rfl (by decide))
  intro g L' h₁ FG F' N' B' X' T'
  (try dsimp only); (try k_fold)
  by_cases hge : (rows.length : Int) ≤ k
  · have hge' : (vs.length : Int) ≤ k := by omega
    k_steps
    rename_i kF kN Tc kX
    have e : atOf rows k d bb = d := by
      unfold atOf
      rw [List.getElem?_eq_none (by omega)]
    exact ret _ _ _ _ e.symm kF kN
  · have hlt : k.toNat < (rows.map rowD).length := by rw [List.length_map]; omega
    obtain ⟨v, hv, hvD⟩ := hD.get hlt
    rw [List.getElem_map] at hvD
    obtain ⟨a1, us, n1, rfl, hm1, hu⟩ := row_in hvD
    have hm1' := hs _ hm1
    have hro : rows[k.toNat]? = some (rows[k.toNat]'(by simpa using hlt)) := List.getElem?_eq_getElem _
    cases hrow : rows[k.toNat]'(by simpa using hlt) with
    | nil => exact absurd hrow (hne _ (List.getElem_mem _))
    | cons x row =>
      rw [hrow] at hu
      cases hu with
      | cons hu1 hu2 =>
      cases x with
      | none =>
        have := v_none hu1
        subst this
        k_steps
        rename_i kF kN Tc kX
        have e : atOf rows k d bb = d := by
          unfold atOf
          rw [hro, hrow]
        exact ret _ _ _ _ e.symm kF kN
      | some i =>
        obtain ⟨ti, rfl⟩ := v_some hu1
        have e : atOf rows k d bb = if bb = true ∧ i = 0 then d else i := by
          unfold atOf
          rw [hro, hrow]
        rw [e] at ret
        cases bb with
        | false =>
          k_steps
          rename_i kF kN Tc kX
          exact ret _ _ _ _ (by simp) kF kN
        | true =>
          k_steps
          · rename_i kF kN Tc kX
            rename i = 0 => hz
            exact ret _ _ _ _ (by rw [if_pos ⟨rfl, hz⟩]) kF kN
          · rename_i kF kN Tc kX
            rename i ≠ 0 => hz
            exact ret _ _ _ _ (by rw [if_neg (fun x => hz x.2)]) kF kN
end
section
section
theorem values_walk {r : Addr} {vs : List Value} {nr : Nat} {news l9 : List (Addr × Obj)} {rows : List (List (Option Int))}
   (B : Below A₀ base outer h₀) (F : Fr h₀ L s.heap m) (X : (Mine.hd.heap_39 w.params).In h₀) (N : News h₀ L s.heap news)
   (T : Top Mine.hd.view_39 loose mean mg mb h₀) (hk : cs.kind = .function) (hdp : dp + 20 < recursionLimit) (hun : un + 300 < cLine)
   (hr : (r, listOf vs.toArray nr) ∈ news) (hD : DatAll l9 vs (rows.map rowD)) (hs : ∀ p ∈ l9, p ∈ news) (hlen : rows.length < 1000)
   (ret : ∀ d us nn h' tk', IntsAre us ((List.range rows.length).map fun (i : Nat) => plainOf rows (i : Int) 0) → Fr h₀ L h' m → News h₀ L h' ((d, listOf us.toArray nn) :: news) → (∀ p ∈ news, p.1 ≠ d) → Q (.ref d) { s with heap := h', toks := tk' }) :
   wpAny (model PySem.Challenge.rw_np0269_01.row.prog w) (ktrTop dp un gd cn cs L a ccd cl outer) (call (.ref 115) [.ref r]) Q E s := by
  w_top off
  revert X; k_fill; intro X
  refine wpAny_call ?_
  have st12 : Stops 12 := .mk
  have st103 : Stops 103 := .mk
  have hvl := hD.length
  rw [List.length_map] at hvl
  k_dflt (refine code_defC (binds := [(Str.ofString "params", .ref r)]) B F X N T rfl rfl hk (by k_is) (by k_is) (by k_room) (BindsTo.of_eq rfl) rfl (by decide +kernel) ?_ rfl rfl rfl)
  intro g L' h₁ tk cells FG F' N' Y B' X' T' l1
  k_cells Y
  simp only [List.cons_append, List.nil_append] at N'
  (try dsimp only); (try k_fold)
  k_steps
  refine Stop.of ?_
  rename Fr _ _ _ _ => F1; rename News _ _ _ _ => N1; rename IsRange _ _ _ _ _ _ _ _ => hR
  refine src_range1 (n := rows.length) (fun i ys => IntsAre ys ((List.range i).map fun (i : Nat) => plainOf rows (i : Int) 0)) rfl F1 N1 hR (by rw [hvl]) (by omega) .nil ?_ ?_
  · clear F1 N1
    rintro i tv ys I oI C oC D m₂ h tk E' hi hJ hC hx F2 N2 off ne
    (try k_unmd); (try k_fold)
    k_steps
    refine Stop.of ?_
    k_dflt (refine plain_walk w (rows := rows) (d := 0) (k := (i : Int)) (l9 := l9) B' F2 X' N2 T' rfl (by k_room) (by k_units) (.tail _ (.tail _ (.tail _ (.tail _ hr)))) hD (fun p hp => .tail _ (.tail _ (.tail _ (.tail _ (hs p hp))))) (by omega) (by omega) hlen ?_)
    intro t h3 tk3 F3 N3
    k_steps
    exact end1 F3 N3 (fun p hp => hp) (by rw [List.range_succ, List.map_append]; exact hJ.append (.cons _ _ .nil))
  · clear F1 N1
    rintro ys D h' tk' hJ F2 N2 o1
    k_steps
    rename_i kF kN Tc kX
    exact ret _ _ _ _ _ hJ kF (news_sub kN fun p hp => by
      rcases List.mem_cons.mp hp with rfl | hp
      · exact .head _
      · exact .tail _ (.tail _ hp)) (off1_mem o1.2)
end
end
section
/-- figures from the last one on; none of nought -/
def lsd (r : Nat) : List Int := if h : r = 0 then [] else (48 + (r % 10 : Nat) : Int) :: lsd (r / 10)
termination_by r
decreasing_by exact Nat.div_lt_self (Nat.pos_of_ne_zero h) (by decide)
def decL (n : Nat) : List Int := ((48 + (n % 10 : Nat) : Int) :: lsd (n / 10)).reverse
theorem lsd_in (r : Nat) : ∀ x ∈ lsd r, 48 ≤ x ∧ x ≤ 57 := by
  induction r using Nat.strongRecOn with
  | _ r ih =>
    intro x hx
    unfold lsd at hx
    split at hx
    · cases hx
    · rename_i h
      rcases List.mem_cons.mp hx with rfl | hx
      · omega
      · exact ih _ (Nat.div_lt_self (Nat.pos_of_ne_zero h) (by decide)) x hx
theorem lsd_len (k : Nat) : ∀ r, r < 10 ^ k → (lsd r).length ≤ k := by
  induction k with
  | zero => intro r h; have : r = 0 := by simpa using h
            subst this; unfold lsd; simp
  | succ k ih =>
    intro r h
    unfold lsd
    split
    · simp
    · have := ih (r / 10) (by rw [Nat.div_lt_iff_lt_mul (by decide)]; rw [Nat.pow_succ] at h; exact h)
      simp only [List.length_cons]; omega
theorem decL_in (n : Nat) : ∀ x ∈ decL n, 48 ≤ x ∧ x ≤ 57 := by
  intro x hx
  unfold decL at hx
  rw [List.mem_reverse] at hx
  rcases List.mem_cons.mp hx with rfl | hx
  · omega
  · exact lsd_in _ x hx

section
theorem dec_walk {i : Int} {ti : Tok} {news : List (Addr × Obj)}
   (B : Below A₀ base outer h₀) (F : Fr h₀ L s.heap m) (X : (Mine.hd.heap_39 w.params).In h₀) (N : News h₀ L s.heap news)
   (T : Top Mine.hd.view_39 loose mean mg mb h₀) (hk : cs.kind = .function) (hdp : dp + 10 < recursionLimit) (hun : un + 200 < cLine)
   (h0 : 0 ≤ i) (h1 : i < 100000)
   (ret : ∀ t h' tk', Fr h₀ L h' m → News h₀ L h' news → Q (.bytes ((decL i.toNat).map fun n => n.toNat.toUInt8).toArray t) { s with heap := h', toks := tk' }) :
   wpAny (model PySem.Challenge.rw_np0269_01.row.prog w) (ktrTop dp un gd cn cs L a ccd cl outer) (call (.ref 21) [.int i ti]) Q E s := by
  w_top off
  revert X; k_fill; intro X
  refine wpAny_call ?_
  have st12 : Stops 12 := .mk
  have st3 : Stops 3 := .mk
  k_dflt (refine code_def (binds := [(Str.ofString "number", .int i ti)]) B F X N T rfl rfl hk (by k_is) (by k_is) (by k_room) (BindsTo.of_eq rfl) (locs rfl) ?_ rfl rfl rfl (by decide))
  intro g L' h₁ FG F' N' B' X' T'
  (try dsimp only); (try k_fold)
  k_steps
  refine Stop.of ?_
  rename Fr _ _ _ _ => F1; rename News _ _ _ _ => N1; rename ∀ p ∈ news, p.1 < _ => l1
  rename_i tk0 hA l' hB hC hD
  have e48 : ∀ x : Int, 0 ≤ x → (48 + x.fmod 10 : Int) = 48 + ((x.toNat % 10 : Nat) : Int) := fun x hx => by
    rw [Int.fmod_eq_emod_of_nonneg _ (by decide)]; omega
  have e10 : ∀ x : Int, 0 ≤ x → x.fdiv 10 = ((x.toNat / 10 : Nat) : Int) := fun x hx => by
    rw [Int.fdiv_eq_ediv_of_nonneg _ (by decide)]; omega
  have hlen : (lsd (i.toNat / 10)).length ≤ 5 := lsd_len 5 _ (by omega)
  refine ksw_while (σ := Int × Tok × List Value × Nat × List Int) (fun c => (l', listOf c.2.2.1.toArray c.2.2.2.1) :: news) (fun c => [(Str.ofString "rest", .int c.1 c.2.1)]) (fun c => IntsAre c.2.2.1 c.2.2.2.2) []
    (fun c => 0 ≤ c.1 ∧ c.1 < 100000 ∧ c.2.2.2.2 ++ lsd c.1.toNat = (48 + (i.toNat % 10 : Nat) : Int) :: lsd (i.toNat / 10)) (fun c => c.1.toNat)
    (i.fdiv 10, ?tr, [Value.int (48 + i.fmod 10) (tk0 + 1 + 1 + 1 + 1 + 1)], 0, [48 + i.fmod 10]) F1 N1 (.cons _ _ .nil) ?hk ?hp ?turn
  case hk =>
    intro p hp
    rw [List.mem_singleton.mp hp]
    rfl
  case hp =>
    refine ⟨?_, ?_, ?_⟩
    · show 0 ≤ i.fdiv 10
      rw [e10 _ h0]; omega
    · show i.fdiv 10 < 100000
      rw [e10 _ h0]; omega
    · show [48 + i.fmod 10] ++ lsd (i.fdiv 10).toNat = _
      rw [e48 _ h0, e10 _ h0, Int.toNat_natCast]; rfl
  case turn =>
    clear F1 N1
    rintro ⟨r, tr, us, nn, fs⟩ u h tk hI ⟨hr0, hr1, hr2⟩ F2 N2
    dsimp only at hI hr0 hr1 hr2 N2
    have hul : us.length ≤ 10 := by
      have q := congrArg List.length hr2
      rw [List.length_append, List.length_cons] at q
      rw [hI.length]; omega
    (try k_unmd); (try k_fold)
    k_steps
    · rename Fr _ _ _ _ => F3; rename News _ _ _ _ => N3; rename 0 < r => hrp
      refine ksw_end (r.fdiv 10, ?tr2, us ++ [Value.int (48 + r.fmod 10) ?tk2], nn + 1, fs ++ [48 + r.fmod 10]) F3 (news' := (l', listOf (us ++ [Value.int (48 + r.fmod 10) ?tk2]).toArray (nn + 1)) :: news) ?nw (fun p hp => hp) ?f2 ?k2 ?s2 ?p2 ?m2
      case nw =>
        rw [List.push_toArray] at N3
        exact N3
      case f2 => exact hI.append (.cons _ _ .nil)
      case k2 =>
        intro p hp
        rw [List.mem_singleton.mp hp]
        rfl
      case s2 =>
        intro z hz _
        have hz' : z ≠ Str.ofString "rest" := hz _ (.head _)
        simp [kstB, hz']
      case p2 =>
        dsimp only
        have e2 : lsd r.toNat = (48 + (r.toNat % 10 : Nat) : Int) :: lsd (r.toNat / 10) := by
          rw [lsd, dif_neg (by omega)]
        refine ⟨by rw [e10 _ hr0]; omega, by rw [e10 _ hr0]; omega, ?_⟩
        rw [e10 _ hr0, Int.toNat_natCast, e48 _ hr0, List.append_assoc, List.singleton_append, ← e2]
        exact hr2
      case m2 =>
        dsimp only
        rw [e10 _ hr0, Int.toNat_natCast]
        exact Nat.div_lt_self (by omega) (by decide)
    · rename Fr _ _ _ _ => F3; rename News _ _ _ _ => N3; rename ¬ 0 < r => hrn; rename IntsAre _ fs.reverse => hIr
      have hr3 : r = 0 := by omega
      subst hr3
      have e0 : fs = (48 + (i.toNat % 10 : Nat) : Int) :: lsd (i.toNat / 10) := by
        rw [← hr2, Int.toNat_zero, lsd, dif_pos rfl, List.append_nil]
      have eD : fs.reverse = decL i.toNat := by rw [e0]; rfl
      rw [eD] at hIr
      refine bytes_K F3 N3 ⟨_, (N3 _ (.head _)).1, rfl, _, rfl⟩ hIr (fun x hx => by have := decL_in _ x hx; omega) ?_ rfl ?_
      · rw [sizeLine_eq, hIr.length, ← eD, List.length_reverse, ← hI.length]; omega
      · intro h4 t4 k4 F4 N4 _
        k_steps
        rename_i kF kN Tc kX
        exact ret _ _ _ kF (news_sub kN fun p hp => .tail _ (.tail _ hp))
end
end
section
def partB : Option Int → Array UInt8
  | none => #[]
  | some i => ((decL i.toNat).map fun n => n.toNat.toUInt8).toArray
section
theorem part_walk {x : Option Int} {v : Value} {news l9 : List (Addr × Obj)}
   (B : Below A₀ base outer h₀) (F : Fr h₀ L s.heap m) (X : (Mine.hd.heap_39 w.params).In h₀) (N : News h₀ L s.heap news)
   (T : Top Mine.hd.view_39 loose mean mg mb h₀) (hk : cs.kind = .function) (hdp : dp + 20 < recursionLimit) (hun : un + 300 < cLine)
   (hv : DatIn l9 v (vD x)) (hx : ∀ i, x = some i → 0 ≤ i ∧ i < 100000)
   (ret : ∀ t h' tk', Fr h₀ L h' m → News h₀ L h' news → Q (.bytes (partB x) t) { s with heap := h', toks := tk' }) :
   wpAny (model PySem.Challenge.rw_np0269_01.row.prog w) (ktrTop dp un gd cn cs L a ccd cl outer) (call (.ref 91) [v]) Q E s := by
  w_top off
  revert X; k_fill; intro X
  refine wpAny_call ?_
  have st12 : Stops 12 := .mk
  have st21 : Stops 21 := .mk
  cases x with
  | none =>
    have := v_none hv
    subst this
    k_dflt (refine code_def (binds := [(Str.ofString "value", Value.none)]) B F X N T rfl rfl hk (by k_is) (by k_is) (by k_room) (BindsTo.of_eq rfl) (locs rfl) ?_ rfl rfl rfl (by decide))
    intro g L' h₁ FG F' N' B' X' T'
    (try dsimp only); (try k_fold)
    k_steps
    rename_i kF kN Tc kX
    exact ret _ _ _ kF kN
  | some i =>
    obtain ⟨ti, rfl⟩ := v_some hv
    obtain ⟨hi0, hi1⟩ := hx i rfl
    k_dflt (refine code_def (binds := [(Str.ofString "value", Value.int i ti)]) B F X N T rfl rfl hk (by k_is) (by k_is) (by k_room) (BindsTo.of_eq rfl) (locs rfl) ?_ rfl rfl rfl (by decide))
    intro g L' h₁ FG F' N' B' X' T'
    (try dsimp only); (try k_fold)
    k_steps
    refine Stop.of ?_
    rename Fr _ _ _ _ => F1; rename News _ _ _ _ => N1
    k_dflt (refine dec_walk w B' F1 X' N1 T' rfl (by k_room) (by k_units) hi0 hi1 ?_)
    clear F1 N1
    intro t h' tk' F2 N2
    k_steps
    rename_i kF kN Tc kX
    exact ret _ _ _ kF kN
end
end
section
def rowB (row : List (Option Int)) : Array UInt8 := PySem.Builtin.Bytes.joined #[58] (row.map partB)
def rowsB (rows : List (List (Option Int))) : Array UInt8 := PySem.Builtin.Bytes.joined #[59] (rows.map rowB)
theorem partB_size {x : Option Int} (hx : ∀ i, x = some i → 0 ≤ i ∧ i < 100000) : (partB x).size ≤ 6 := by
  cases x with
  | none => exact Nat.zero_le _
  | some i =>
    obtain ⟨h0, h1⟩ := hx i rfl
    have := lsd_len 5 (i.toNat / 10) (by omega)
    unfold partB decL
    simp only [List.size_toArray, List.length_map, List.length_reverse, List.length_cons]
    omega
theorem rowB_size {row : List (Option Int)} (h : row.length ≤ 100) (hx : ∀ i, some i ∈ row → 0 ≤ i ∧ i < 100000) : (rowB row).size ≤ 700 := by
  have := joined_size #[58] 6 (row.map partB) (by
    intro b hb
    obtain ⟨x, hm, rfl⟩ := List.mem_map.mp hb
    exact partB_size fun i e => hx i (e ▸ hm))
  rw [List.length_map] at this
  unfold rowB
  rw [show (6 + (#[58] : Array UInt8).size) = 7 from rfl] at this
  omega
section
theorem params_walk {r : Addr} {vs : List Value} {nr : Nat} {news l9 : List (Addr × Obj)} {rows : List (List (Option Int))}
   (B : Below A₀ base outer h₀) (F : Fr h₀ L s.heap m) (X : (Mine.hd.heap_39 w.params).In h₀) (N : News h₀ L s.heap news)
   (T : Top Mine.hd.view_39 loose mean mg mb h₀) (hk : cs.kind = .function) (hdp : dp + 30 < recursionLimit) (hun : un + 400 < cLine)
   (hr : (r, listOf vs.toArray nr) ∈ news) (hD : DatAll l9 vs (rows.map rowD)) (hs : ∀ p ∈ l9, p ∈ news) (hok : RowsOk rows)
   (ret : ∀ t h' tk', Fr h₀ L h' m → News h₀ L h' news → Q (.bytes (rowsB rows) t) { s with heap := h', toks := tk' }) :
   wpAny (model PySem.Challenge.rw_np0269_01.row.prog w) (ktrTop dp un gd cn cs L a ccd cl outer) (call (.ref 96) [.ref r]) Q E s := by
  w_top off
  revert X; k_fill; intro X
  refine wpAny_call ?_
  have st12 : Stops 12 := .mk
  have st91 : Stops 91 := .mk
  have hvl := hD.length
  rw [List.length_map] at hvl
  k_dflt (refine code_def (binds := [(Str.ofString "params", .ref r)]) B F X N T rfl rfl hk (by k_is) (by k_is) (by k_room) (BindsTo.of_eq rfl) (locs rfl) ?_ rfl rfl rfl (by decide))
  intro g L' h₁ FG F' N' B' X' T'
  (try dsimp only); (try k_fold)
  k_steps
  refine Stop.of ?_
  rename Fr _ _ _ _ => F1; rename News _ _ _ _ => N1
  refine src_ledger1 (fun i ys => BytesAre ys ((rows.take i).map rowB)) rfl F1 N1 hr ?_ .nil ?_ ?_
  · rw [sizeLine_eq]; have := hok.1; omega
  · clear F1 N1
    rintro i v ys I oI C oC D m₂ h tk E' hi hJ hv hC hx F2 N2 off ne
    have hir : i < (rows.map rowD).length := by rw [List.length_map]; omega
    obtain ⟨v', hv', hvD⟩ := hD.get hir
    rw [hv] at hv'
    obtain rfl := Option.some.inj hv'
    rw [List.getElem_map] at hvD
    obtain ⟨a1, us, n1, rfl, hm1, hu⟩ := row_in hvD
    have hm1' := hs _ hm1
    (try k_unmd); (try k_fold)
    k_steps
    refine Stop.of ?_
    have hul := hu.length
    rw [List.length_map] at hul
    have hrow := hok.2 rows[i] (List.getElem_mem _)
    refine src_ledger1 (fun j zs => BytesAre zs ((rows[i].take j).map partB)) rfl F2 N2 (.tail _ (.tail _ (.tail _ hm1'))) ?_ .nil ?_ ?_
    · rw [sizeLine_eq]; omega
    · clear F2 N2
      rintro j u zs I2 oI2 C2 oC2 D2 m3 h2 tk2 E2 hj hJ2 hu2 hC2 hx2 F3 N3 off2 ne2
      have hjr : j < (rows[i].map vD).length := by rw [List.length_map]; omega
      obtain ⟨u', hu3, huD⟩ := hu.get hjr
      rw [hu2] at hu3
      obtain rfl := Option.some.inj hu3
      rw [List.getElem_map] at huD
      (try k_unmd); (try k_fold)
      k_steps
      refine Stop.of ?_
      k_dflt (refine part_walk w B' F3 X' N3 T' rfl (by k_room) (by k_units) huD (fun k hk => hrow.2 k (hk ▸ List.getElem_mem _)) ?_)
      clear F3 N3
      intro t h3 tk3 F4 N4
      k_steps
      refine end1 F4 N4 (fun p hp => hp) ?_
      rw [List.take_add_one, List.getElem?_eq_getElem (by omega), List.map_append]
      exact hJ2.append (.cons _ _ .nil)
    · clear F2 N2
      rintro zs D2 h2 tk2 hJ2 F3 N3 o2
      rw [show us.length = rows[i].length from hul, List.take_length] at hJ2
      k_steps
      refine Stop.of ?_
      have hz : ∀ b ∈ rows[i].map partB, b.size ≤ 6 := by
        intro b hb
        obtain ⟨x, hm, rfl⟩ := List.mem_map.mp hb
        exact partB_size fun k e => hrow.2 k (e ▸ hm)
      refine call_join ⟨_, (N3 _ (.head _)).1, rfl, _, rfl⟩ hJ2 ?_ ?_ ?_
      · refine Nat.le_trans (sizes_le 6 _ _ hz) ?_
        rw [List.length_map, show (#[58] : Array UInt8).size = 1 from rfl]; omega
      · exact Nat.le_trans (rowB_size hrow.1 hrow.2) (by decide)
      · intro t' k
        k_steps
        refine end1 F3 N3 (fun p hp => .tail _ hp) ?_
        rw [List.take_add_one, List.getElem?_eq_getElem (by omega), List.map_append]
        exact hJ.append (.cons _ _ .nil)
  · clear F1 N1
    rintro ys D h' tk' hJ F2 N2 o1
    k_steps
    refine Stop.of ?_
    rw [hvl, List.take_length] at hJ
    have hz : ∀ b ∈ rows.map rowB, b.size ≤ 700 := by
      intro b hb
      obtain ⟨x, hm, rfl⟩ := List.mem_map.mp hb
      exact rowB_size (hok.2 x hm).1 (hok.2 x hm).2
    have hr1 := hok.1
    refine call_join ⟨_, (N2 _ (.head _)).1, rfl, _, rfl⟩ hJ ?_ ?_ ?_
    · refine Nat.le_trans (sizes_le 700 _ _ hz) ?_
      rw [List.length_map, show (#[59] : Array UInt8).size = 1 from rfl]; omega
    · refine Nat.le_trans (joined_size _ 700 _ hz) ?_
      rw [List.length_map, show 700 + (#[59] : Array UInt8).size = 701 from rfl]; omega
    · intro t' k
      k_steps
      rename_i kF kN Tc kX
      exact ret _ _ _ kF (news_sub kN fun p hp => .tail _ hp)
end
end
section
section
def WEnd (g : Heap) (L : Addr) (m : Str → Option Value) (s : Shared) (W : List Value → Nat → List (Addr × Obj)) (P : List Value → Prop) (v : Flow) (s' : Shared) : Prop :=
  ∃ (pl : List Value) (np : Nat) (h' : Heap) (tk' : Nat), v = Flow.next ∧ s' = { s with heap := h', toks := tk' } ∧ Fr g L h' m ∧ News g L h' (W pl np) ∧ P pl
theorem cut_w {prog : Program} {A : Around} {t : Sem Flow} {Q : Flow → Shared → Prop} {E : Value → Shared → Prop} {s : Shared} {g : Heap} {L : Addr} {m : Str → Option Value} (W : List Value → Nat → List (Addr × Obj)) (P : List Value → Prop) (vs : List Value) (n : Nat) (_F : Fr g L s.heap m) (_N : News g L s.heap (W vs n))
    (h : wpAny (model prog w) A t (WEnd g L m s W P) E s)
    (k : ∀ (pl : List Value) (np : Nat) (h' : Heap) (tk' : Nat), Fr g L h' m → News g L h' (W pl np) → P pl → Q Flow.next { s with heap := h', toks := tk' }) : wpAny (model prog w) A t Q E s :=
  wpAny_mono h (fun v s' ⟨pl, np, h', tk', e1, e2, F, N, hD⟩ => by rw [e1, e2]; exact k pl np h' tk' F N hD) fun _ _ z => z
theorem closePart_walk {x dx : Addr} {most limit : Int} {st : St} {nx rest : List (Addr × Obj)}
   (B : Below A₀ base outer h₀) (F : Fr h₀ L s.heap m) (X : (Mine.hd.heap_39 w.params).In h₀) (N : News h₀ L s.heap (nx ++ rest))
   (T : Top Mine.hd.view_39 loose mean mg mb h₀) (hk : cs.kind = .function) (hdp : dp + 20 < recursionLimit) (hun : un + 300 < cLine)
   (hR : RI w x dx most limit st nx) (hO : OwnOff rest (nx.map (·.1))) (hok : StOk most limit st) (hm0 : 0 ≤ most) (hm1 : most ≤ 32) (hl0 : 0 ≤ limit) (hl1 : limit ≤ 65535)
   (ret : ∀ h' tk' nx', Fr h₀ L h' m → News h₀ L h' (nx' ++ rest) → RI w x dx most limit (closePart most st) nx' → OwnOff rest (nx'.map (·.1)) → Q .none { s with heap := h', toks := tk' }) :
   wpAny (model PySem.Challenge.rw_np0269_01.row.prog w) (ktrTop dp un gd cn cs L a ccd cl outer) (call (.ref 57) [.ref x]) Q E s := by
  w_top off
  revert X; k_fill; intro X
  refine wpAny_call ?_
  have st12 : Stops 12 := .mk
  obtain ⟨f, p, v, fs, ps, nf, np, t1, t2, t3, t4, t5, t6, tm, tl, fz, rfl, ⟨nxd, nxf, nxp, ndf, ndp, nfp⟩, hz, hF, hP, hv⟩ := hR
  have rx : ∀ q ∈ fz ++ rest, q.1 ≠ x := fun q hq => (List.mem_append.mp hq).elim (fun h => (hz q h).1) fun h => hO q h x (.head _)
  have rdx : ∀ q ∈ fz ++ rest, q.1 ≠ dx := fun q hq => (List.mem_append.mp hq).elim (fun h => (hz q h).2.1) fun h => hO q h dx (.tail _ (.head _))
  have rf : ∀ q ∈ fz ++ rest, q.1 ≠ f := fun q hq => (List.mem_append.mp hq).elim (fun h => (hz q h).2.2.1) fun h => hO q h f (.tail _ (.tail _ (.head _)))
  have rp : ∀ q ∈ fz ++ rest, q.1 ≠ p := fun q hq => (List.mem_append.mp hq).elim (fun h => (hz q h).2.2.2) fun h => hO q h p (.tail _ (.tail _ (.tail _ (.head _))))
  have hfl := hF.length
  have hpl := hP.length
  rw [List.length_map] at hfl hpl
  obtain ⟨hk1, hk2, hk3, _, _⟩ := hok
  simp only [List.cons_append] at N
  generalize hfr : fz ++ rest = fr at N rx rdx rf rp
  have hO5 : ∀ q ∈ rest, ∀ a ∈ fz.map (·.1), q.1 ≠ a := fun q hq a ha => hO q hq a (.tail _ (.tail _ (.tail _ (.tail _ ha))))
  have vh : handedIn v = true := hv.handed
  k_dflt (refine code_def (binds := [(Str.ofString "self", .ref x)]) B F X N T rfl rfl hk (by k_is) (by k_is) (by k_room) (BindsTo.of_eq rfl) (locs rfl) ?_ rfl rfl rfl (by decide))
  intro g L' h₁ FG F' N' B' X' T'
  (try dsimp only); (try k_fold)
  have imk : Stops 2 := .mk
  k_steps
  refine Stop.of ?_
  rename Fr _ _ _ _ => F1; rename News _ _ _ _ => N1
  refine cut_w w (fun pl np => _ :: _ :: _ :: (_, listOf pl.toArray np) :: _) (fun pl => DatAll [] pl ((closePart most st).parts.map vD)) ps np F1 N1 ?_ ?_
  · rename Stops 2 => im2
    clear im2
    by_cases hlt : (st.parts.length : Int) < most
    · have hlt' : (ps.length : Int) < most := by omega
      have hul : ps.length ≤ 40 := by omega
      k_steps
      rename Fr _ _ _ _ => F2; rename News _ _ _ _ => N2
      rw [List.push_toArray] at N2
      refine ⟨_, _, _, _, rfl, rfl, F2, N2, ?_⟩
      show DatAll [] (ps ++ [v]) ((if (st.parts.length : Int) < most then st.parts ++ [st.value] else st.parts).map vD)
      rw [if_pos hlt, List.map_append]
      exact hP.append (.cons hv .nil)
    · have hlt' : ¬ (ps.length : Int) < most := by omega
      k_steps
      rename Fr _ _ _ _ => F2; rename News _ _ _ _ => N2
      refine ⟨_, _, _, _, rfl, rfl, F2, N2, ?_⟩
      show DatAll [] ps ((if (st.parts.length : Int) < most then st.parts ++ [st.value] else st.parts).map vD)
      rw [if_neg hlt]
      exact hP
  clear F1 N1
  rename Stops 2 => im2
  clear im2
  intro pl npl h5 tk5 F5 N5 hPP
  k_steps
  rename Fr h₀ L _ _ => kF; rename News h₀ L _ _ => kN
  rw [← hfr] at kN
  exact ret _ _ _ kF (news_sub kN (fun q hq => hq)) ⟨f, p, _, fs, pl, nf, npl, _, _, _, _, _, _, _, _, fz, rfl, ⟨nxd, nxf, nxp, ndf, ndp, nfp⟩, hz, hF, hPP, .none⟩ hO
theorem closeParam_walk {x dx : Addr} {most limit : Int} {st : St} {nx rest : List (Addr × Obj)}
   (B : Below A₀ base outer h₀) (F : Fr h₀ L s.heap m) (X : (Mine.hd.heap_39 w.params).In h₀) (N : News h₀ L s.heap (nx ++ rest))
   (T : Top Mine.hd.view_39 loose mean mg mb h₀) (hk : cs.kind = .function) (hdp : dp + 20 < recursionLimit) (hun : un + 300 < cLine)
   (hR : RI w x dx most limit st nx) (hO : OwnOff rest (nx.map (·.1))) (hok : StOk most limit st) (hm0 : 0 ≤ most) (hm1 : most ≤ 32) (hl0 : 0 ≤ limit) (hl1 : limit ≤ 65535)
   (ret : ∀ h' tk' nx', Fr h₀ L h' m → News h₀ L h' (nx' ++ rest) → RI w x dx most limit (closeParam most st) nx' → OwnOff rest (nx'.map (·.1)) → Q .none { s with heap := h', toks := tk' }) :
   wpAny (model PySem.Challenge.rw_np0269_01.row.prog w) (ktrTop dp un gd cn cs L a ccd cl outer) (call (.ref 64) [.ref x]) Q E s := by
  w_top off
  revert X; k_fill; intro X
  refine wpAny_call ?_
  have st12 : Stops 12 := .mk
  obtain ⟨f, p, v, fs, ps, nf, np, t1, t2, t3, t4, t5, t6, tm, tl, fz, rfl, ⟨nxd, nxf, nxp, ndf, ndp, nfp⟩, hz, hF, hP, hv⟩ := hR
  have rx : ∀ q ∈ fz ++ rest, q.1 ≠ x := fun q hq => (List.mem_append.mp hq).elim (fun h => (hz q h).1) fun h => hO q h x (.head _)
  have rdx : ∀ q ∈ fz ++ rest, q.1 ≠ dx := fun q hq => (List.mem_append.mp hq).elim (fun h => (hz q h).2.1) fun h => hO q h dx (.tail _ (.head _))
  have rf : ∀ q ∈ fz ++ rest, q.1 ≠ f := fun q hq => (List.mem_append.mp hq).elim (fun h => (hz q h).2.2.1) fun h => hO q h f (.tail _ (.tail _ (.head _)))
  have rp : ∀ q ∈ fz ++ rest, q.1 ≠ p := fun q hq => (List.mem_append.mp hq).elim (fun h => (hz q h).2.2.2) fun h => hO q h p (.tail _ (.tail _ (.tail _ (.head _))))
  have hfl := hF.length
  have hpl := hP.length
  rw [List.length_map] at hfl hpl
  obtain ⟨hk1, hk2, hk3, _, _⟩ := hok
  simp only [List.cons_append] at N
  generalize hfr : fz ++ rest = fr at N rx rdx rf rp
  have hO5 : ∀ q ∈ rest, ∀ a ∈ fz.map (·.1), q.1 ≠ a := fun q hq a ha => hO q hq a (.tail _ (.tail _ (.tail _ (.tail _ ha))))
  k_dflt (refine code_def (binds := [(Str.ofString "self", .ref x)]) B F X N T rfl rfl hk (by k_is) (by k_is) (by k_room) (BindsTo.of_eq rfl) (locs rfl) ?_ rfl rfl rfl (by decide))
  intro g L' h₁ FG F' N' B' X' T'
  (try dsimp only); (try k_fold)
  have imk : Stops 2 := .mk
  k_steps
  refine Stop.of ?_
  rename Fr _ _ _ _ => F1; rename News _ _ _ _ => N1
  refine cut_w w (fun pl np => _ :: _ :: (_, listOf pl.toArray np) :: (p, listOf ps.toArray _) :: _) (fun pl => DatAll ((p, listOf ps.toArray np) :: fz) pl ((closeParam most st).found.map rowD)) fs nf F1 N1 ?_ ?_
  · rename Stops 2 => im2
    clear im2
    by_cases hlt : (st.found.length : Int) < most
    · have hlt' : (fs.length : Int) < most := by omega
      have hul : fs.length ≤ 40 := by omega
      k_steps
      rename Fr _ _ _ _ => F2; rename News _ _ _ _ => N2
      rw [List.push_toArray] at N2
      refine ⟨_, _, _, _, rfl, rfl, F2, N2, ?_⟩
      show DatAll _ _ ((if (st.found.length : Int) < most then st.found ++ [st.parts] else st.found).map rowD)
      rw [if_pos hlt, List.map_append]
      refine (hF.mono fun q hq => .tail _ hq).append (.cons ?_ .nil)
      exact DatIn.list (.head _) (hP.mono (by intro q hq; cases hq))
    · have hlt' : ¬ (fs.length : Int) < most := by omega
      k_steps
      rename Fr _ _ _ _ => F2; rename News _ _ _ _ => N2
      refine ⟨_, _, _, _, rfl, rfl, F2, N2, ?_⟩
      show DatAll _ _ ((if (st.found.length : Int) < most then st.found ++ [st.parts] else st.found).map rowD)
      rw [if_neg hlt]
      exact hF.mono fun q hq => .tail _ hq
  clear F1 N1
  rename Stops 2 => im2
  clear im2
  intro pl npl h5 tk5 F5 N5 hPP
  k_steps
  rename Fr h₀ L _ _ => kF; rename News h₀ L _ _ => kN
  rename _ ∧ _ ∧ _ ∧ _ ∧ AllLt _ fr => l1
  obtain ⟨lx, ldx, lf, lp, lfr⟩ := l1
  rw [← hfr] at kN lfr
  refine ret _ _ _ kF (reorder kN) ⟨f, _, _, pl, [], npl, 0, _, _, _, _, _, _, _, _, ((p, listOf ps.toArray np) :: fz), rfl, ⟨nxd, nxf, Nat.ne_of_lt lx, ndf, Nat.ne_of_lt ldx, Nat.ne_of_lt lf⟩, ?_, hPP, .nil, hv⟩ ?_
  · intro q hq
    rcases List.mem_cons.mp hq with rfl | hq
    · exact ⟨Ne.symm nxp, Ne.symm ndp, Ne.symm nfp, Nat.ne_of_lt lp⟩
    · exact ⟨(hz q hq).1, (hz q hq).2.1, (hz q hq).2.2.1, Nat.ne_of_lt (tb_ltOf lfr q (List.mem_append.mpr (.inl hq)))⟩
  · intro q hq a ha
    have q1 := hO q hq a
    have q2 := Nat.ne_of_lt (tb_ltOf lfr q (List.mem_append.mpr (.inr hq)))
    simp only [List.map_cons, List.mem_cons] at ha q1
    grind
end
end
section
section
def IntEnd (i : Int) (s : Shared) (v : Value) (s' : Shared) : Prop := ∃ t tk, v = .int i t ∧ s' = { s with toks := tk }
theorem cut_int {prog : Program} {A : Around} {t : Sem Value} {Q : Value → Shared → Prop} {E : Value → Shared → Prop} {s : Shared} {i : Int} (h : wpAny (model prog w) A t (IntEnd i s) E s) (k : ∀ t tk, Q (.int i t) { s with toks := tk }) : wpAny (model prog w) A t Q E s :=
  wpAny_mono h (fun v s' ⟨t, tk, e1, e2⟩ => by rw [e1, e2]; exact k t tk) fun _ _ z => z
def NoEnd (s : Shared) (v : Bool) (s' : Shared) : Prop := ∃ tk, v = false ∧ s' = { s with toks := tk }
theorem cut_no {prog : Program} {A : Around} {t : Sem Bool} {Q : Bool → Shared → Prop} {E : Value → Shared → Prop} {s : Shared} (h : wpAny (model prog w) A t (NoEnd s) E s) (k : ∀ tk, Q false { s with toks := tk }) : wpAny (model prog w) A t Q E s :=
  wpAny_mono h (fun v s' ⟨tk, e1, e2⟩ => by rw [e1, e2]; exact k tk) fun _ _ z => z
theorem put_walk {x dx : Addr} {most limit c : Int} {tc : Tok} {st : St} {nx rest : List (Addr × Obj)}
   (B : Below A₀ base outer h₀) (F : Fr h₀ L s.heap m) (X : (Mine.hd.heap_39 w.params).In h₀) (N : News h₀ L s.heap (nx ++ rest))
   (T : Top Mine.hd.view_39 loose mean mg mb h₀) (hk : cs.kind = .function) (hdp : dp + 30 < recursionLimit) (hun : un + 400 < cLine)
   (hR : RI w x dx most limit st nx) (hO : OwnOff rest (nx.map (·.1))) (hok : StOk most limit st) (hm0 : 0 ≤ most) (hm1 : most ≤ 32) (hl0 : 0 ≤ limit) (hl1 : limit ≤ 65535) (hc0 : 0 ≤ c) (hc1 : c < 256)
   (ret : ∀ b h' tk' nx', b = decide (48 ≤ c ∧ c ≤ 59) → Fr h₀ L h' m → News h₀ L h' (nx' ++ rest) → RI w x dx most limit (putS most limit st c) nx' → OwnOff rest (nx'.map (·.1)) → Q (.bool b) { s with heap := h', toks := tk' }) :
   wpAny (model PySem.Challenge.rw_np0269_01.row.prog w) (ktrTop dp un gd cn cs L a ccd cl outer) (call (.ref 50) [.ref x, .int c tc]) Q E s := by
  w_top off
  revert X; k_fill; intro X
  refine wpAny_call ?_
  have st12 : Stops 12 := .mk
  have st57 : Stops 57 := .mk
  have st64 : Stops 64 := .mk
  have hR0 := hR
  have hok0 := hok
  obtain ⟨f, p, v, fs, ps, nf, np, t1, t2, t3, t4, t5, t6, tm, tl, fz, rfl, ⟨nxd, nxf, nxp, ndf, ndp, nfp⟩, hz, hF, hP, hv⟩ := hR
  have rx : ∀ q ∈ fz ++ rest, q.1 ≠ x := fun q hq => (List.mem_append.mp hq).elim (fun h => (hz q h).1) fun h => hO q h x (.head _)
  have rdx : ∀ q ∈ fz ++ rest, q.1 ≠ dx := fun q hq => (List.mem_append.mp hq).elim (fun h => (hz q h).2.1) fun h => hO q h dx (.tail _ (.head _))
  have rf : ∀ q ∈ fz ++ rest, q.1 ≠ f := fun q hq => (List.mem_append.mp hq).elim (fun h => (hz q h).2.2.1) fun h => hO q h f (.tail _ (.tail _ (.head _)))
  have rp : ∀ q ∈ fz ++ rest, q.1 ≠ p := fun q hq => (List.mem_append.mp hq).elim (fun h => (hz q h).2.2.2) fun h => hO q h p (.tail _ (.tail _ (.tail _ (.head _))))
  have hfl := hF.length
  have hpl := hP.length
  rw [List.length_map] at hfl hpl
  obtain ⟨hk1, hk2, hk3, _, _⟩ := hok
  simp only [List.cons_append] at N
  generalize hfr : fz ++ rest = fr at N rx rdx rf rp
  have hO5 : ∀ q ∈ rest, ∀ a ∈ fz.map (·.1), q.1 ≠ a := fun q hq a ha => hO q hq a (.tail _ (.tail _ (.tail _ (.tail _ ha))))
  by_cases hfig : 48 ≤ c ∧ c ≤ 57
  · obtain ⟨hg1, hg2⟩ := hfig
    have es : putS most limit st c = { figure limit st c with begun := true } := by unfold putS; rw [if_pos ⟨hg1, hg2⟩]
    have eb : true = decide (48 ≤ c ∧ c ≤ 59) := (decide_eq_true ⟨hg1, by omega⟩).symm
    rw [es] at ret
    have imk : Stops 6 := .mk
    have hb : 0 ≤ st.value.getD 0 ∧ st.value.getD 0 ≤ limit := by
      cases hval : st.value with
      | none => exact ⟨Int.le_refl _, hl0⟩
      | some i => exact hk3 i hval
    have hvv : (v = .none ∧ st.value.getD 0 = 0) ∨ ∃ t, v = .int (st.value.getD 0) t := by
      cases hval : st.value with
      | none => rw [hval] at hv; exact .inl ⟨v_none hv, rfl⟩
      | some i => rw [hval] at hv; exact .inr (v_some hv)
    obtain ⟨hi0, hi1⟩ := hb
    generalize hiv : st.value.getD 0 = i at hvv hi0 hi1
    k_dflt (refine code_def (binds := [(Str.ofString "self", .ref x), (Str.ofString "octet", .int c tc)]) B F X N T rfl rfl hk (by k_is) (by k_is) (by k_room) (BindsTo.of_eq rfl) (locs rfl) ?_ rfl rfl rfl (by decide))
    intro g L' h₁ FG F' N' B' X' T'
    (try dsimp only); (try k_fold)
    k_steps
    refine Stop.of ?_
    refine cut_int _ (i := i) ?_ ?_
    · rename Stops 6 => im2
      clear im2
      rcases hvv with ⟨rfl, h0⟩ | ⟨t, rfl⟩
      · k_steps
        rw [h0]
        exact ⟨_, _, rfl, rfl⟩
      · k_steps
        exact ⟨_, _, rfl, rfl⟩
    rename Stops 6 => im2
    clear im2
    intro ti tk9
    k_steps
    rename_i Tc kX
    rename Fr h₀ L _ _ => kF; rename News h₀ L _ _ => kN
    rw [← hfr] at kN
    refine ret true _ _ _ eb kF (news_sub kN (fun q hq => hq)) ⟨f, p, _, fs, ps, nf, np, _, _, _, _, _, _, _, _, fz, rfl, ⟨nxd, nxf, nxp, ndf, ndp, nfp⟩, hz, hF, hP, ?_⟩ hO
    have e1 : min limit (st.value.getD 0 * 10 + c - 48) = (if i * 10 + c - 48 < limit then i * 10 + c - 48 else limit) := by
      rw [hiv]
      split <;> omega
    show DatIn [] _ (vD (some (min limit (st.value.getD 0 * 10 + c - 48))))
    rw [e1]
    exact .int _ _
  · by_cases h58 : c = 58
    · subst h58
      have es : putS most limit st 58 = { closePart most st with begun := true } := by unfold putS; rw [if_neg hfig, if_pos rfl]
      have eb : true = decide (48 ≤ (58 : Int) ∧ (58 : Int) ≤ 59) := rfl
      rw [es] at ret
      k_dflt (refine code_def (binds := [(Str.ofString "self", .ref x), (Str.ofString "octet", .int 58 tc)]) B F X N T rfl rfl hk (by k_is) (by k_is) (by k_room) (BindsTo.of_eq rfl) (locs rfl) ?_ rfl rfl rfl (by decide))
      intro g L' h₁ FG F' N' B' X' T'
      (try dsimp only); (try k_fold)
      k_steps
      refine Stop.of ?_
      rename Fr g L' _ _ => F1; rename News g L' _ _ => N1
      k_dflt (refine closePart_walk w B' F1 X' (news_sub N1 (fun q hq => by rw [← hfr]; exact hq)) T' rfl (by k_room) (by k_units) hR0 hO hok0 hm0 hm1 hl0 hl1 ?_)
      clear F1 N1
      intro h2 tk2 nx2 F2 N2 R2 O2
      obtain ⟨f2, p2, v2, fs2, ps2, nf2, np2, t12, t22, t32, t42, t52, t62, tm2, tl2, fz2, hnx2, ⟨nxd2, nxf2, nxp2, ndf2, ndp2, nfp2⟩, hz2, hF2, hP2, hv2⟩ := R2
      subst hnx2
      have rx2 : ∀ q ∈ fz2 ++ rest, q.1 ≠ x := fun q hq => (List.mem_append.mp hq).elim (fun h => (hz2 q h).1) fun h => O2 q h x (.head _)
      have rdx2 : ∀ q ∈ fz2 ++ rest, q.1 ≠ dx := fun q hq => (List.mem_append.mp hq).elim (fun h => (hz2 q h).2.1) fun h => O2 q h dx (.tail _ (.head _))
      have rf2 : ∀ q ∈ fz2 ++ rest, q.1 ≠ f2 := fun q hq => (List.mem_append.mp hq).elim (fun h => (hz2 q h).2.2.1) fun h => O2 q h f2 (.tail _ (.tail _ (.head _)))
      have rp2 : ∀ q ∈ fz2 ++ rest, q.1 ≠ p2 := fun q hq => (List.mem_append.mp hq).elim (fun h => (hz2 q h).2.2.2) fun h => O2 q h p2 (.tail _ (.tail _ (.tail _ (.head _))))
      simp only [List.cons_append] at N2
      generalize hfr2 : fz2 ++ rest = fr2 at N2 rx2 rdx2 rf2 rp2
      k_steps
      rename Fr h₀ L _ _ => kF; rename News h₀ L _ _ => kN
      rw [← hfr2] at kN
      exact ret true _ _ _ eb kF (news_sub kN (fun q hq => hq)) ⟨f2, p2, v2, fs2, ps2, nf2, np2, _, _, _, _, _, _, _, _, fz2, rfl, ⟨nxd2, nxf2, nxp2, ndf2, ndp2, nfp2⟩, hz2, hF2, hP2, hv2⟩ O2
    · by_cases h59 : c = 59
      · subst h59
        have es : putS most limit st 59 = { closeParam most (closePart most st) with begun := true } := by unfold putS; rw [if_neg hfig, if_neg h58, if_pos rfl]
        have eb : true = decide (48 ≤ (59 : Int) ∧ (59 : Int) ≤ 59) := rfl
        rw [es] at ret
        k_dflt (refine code_def (binds := [(Str.ofString "self", .ref x), (Str.ofString "octet", .int 59 tc)]) B F X N T rfl rfl hk (by k_is) (by k_is) (by k_room) (BindsTo.of_eq rfl) (locs rfl) ?_ rfl rfl rfl (by decide))
        intro g L' h₁ FG F' N' B' X' T'
        (try dsimp only); (try k_fold)
        k_steps
        refine Stop.of ?_
        rename Fr g L' _ _ => F1; rename News g L' _ _ => N1
        k_dflt (refine closePart_walk w B' F1 X' (news_sub N1 (fun q hq => by rw [← hfr]; exact hq)) T' rfl (by k_room) (by k_units) hR0 hO hok0 hm0 hm1 hl0 hl1 ?_)
        clear F1 N1
        intro h2 tk2 nx2 F2 N2 R2 O2
        have R20 := R2
        obtain ⟨f2, p2, v2, fs2, ps2, nf2, np2, t12, t22, t32, t42, t52, t62, tm2, tl2, fz2, hnx2, ⟨nxd2, nxf2, nxp2, ndf2, ndp2, nfp2⟩, hz2, hF2, hP2, hv2⟩ := R2
        subst hnx2
        have rx2 : ∀ q ∈ fz2 ++ rest, q.1 ≠ x := fun q hq => (List.mem_append.mp hq).elim (fun h => (hz2 q h).1) fun h => O2 q h x (.head _)
        have rdx2 : ∀ q ∈ fz2 ++ rest, q.1 ≠ dx := fun q hq => (List.mem_append.mp hq).elim (fun h => (hz2 q h).2.1) fun h => O2 q h dx (.tail _ (.head _))
        have rf2 : ∀ q ∈ fz2 ++ rest, q.1 ≠ f2 := fun q hq => (List.mem_append.mp hq).elim (fun h => (hz2 q h).2.2.1) fun h => O2 q h f2 (.tail _ (.tail _ (.head _)))
        have rp2 : ∀ q ∈ fz2 ++ rest, q.1 ≠ p2 := fun q hq => (List.mem_append.mp hq).elim (fun h => (hz2 q h).2.2.2) fun h => O2 q h p2 (.tail _ (.tail _ (.tail _ (.head _))))
        simp only [List.cons_append] at N2
        generalize hfr2 : fz2 ++ rest = fr2 at N2 rx2 rdx2 rf2 rp2
        k_steps
        refine Stop.of ?_
        rename Fr g L' _ _ => F1; rename News g L' _ _ => N1
        k_dflt (refine closeParam_walk w B' F1 X' (news_sub N1 (fun q hq => by rw [← hfr2]; exact hq)) T' rfl (by k_room) (by k_units) R20 O2 (closePart_ok hok0) hm0 hm1 hl0 hl1 ?_)
        clear F1 N1
        intro h3 tk3 nx3 F3 N3 R3 O3
        obtain ⟨f3, p3, v3, fs3, ps3, nf3, np3, t13, t23, t33, t43, t53, t63, tm3, tl3, fz3, hnx3, ⟨nxd3, nxf3, nxp3, ndf3, ndp3, nfp3⟩, hz3, hF3, hP3, hv3⟩ := R3
        subst hnx3
        have rx3 : ∀ q ∈ fz3 ++ rest, q.1 ≠ x := fun q hq => (List.mem_append.mp hq).elim (fun h => (hz3 q h).1) fun h => O3 q h x (.head _)
        have rdx3 : ∀ q ∈ fz3 ++ rest, q.1 ≠ dx := fun q hq => (List.mem_append.mp hq).elim (fun h => (hz3 q h).2.1) fun h => O3 q h dx (.tail _ (.head _))
        have rf3 : ∀ q ∈ fz3 ++ rest, q.1 ≠ f3 := fun q hq => (List.mem_append.mp hq).elim (fun h => (hz3 q h).2.2.1) fun h => O3 q h f3 (.tail _ (.tail _ (.head _)))
        have rp3 : ∀ q ∈ fz3 ++ rest, q.1 ≠ p3 := fun q hq => (List.mem_append.mp hq).elim (fun h => (hz3 q h).2.2.2) fun h => O3 q h p3 (.tail _ (.tail _ (.tail _ (.head _))))
        simp only [List.cons_append] at N3
        generalize hfr3 : fz3 ++ rest = fr3 at N3 rx3 rdx3 rf3 rp3
        k_steps
        rename Fr h₀ L _ _ => kF; rename News h₀ L _ _ => kN
        rw [← hfr3] at kN
        exact ret true _ _ _ eb kF (news_sub kN (fun q hq => hq)) ⟨f3, p3, v3, fs3, ps3, nf3, np3, _, _, _, _, _, _, _, _, fz3, rfl, ⟨nxd3, nxf3, nxp3, ndf3, ndp3, nfp3⟩, hz3, hF3, hP3, hv3⟩ O3
      · have es : putS most limit st c = st := by unfold putS; rw [if_neg hfig, if_neg h58, if_neg h59]
        have eb : false = decide (48 ≤ c ∧ c ≤ 59) := (decide_eq_false (by omega)).symm
        rw [es] at ret
        have imk : Stops 5 := .mk
        k_dflt (refine code_def (binds := [(Str.ofString "self", .ref x), (Str.ofString "octet", .int c tc)]) B F X N T rfl rfl hk (by k_is) (by k_is) (by k_room) (BindsTo.of_eq rfl) (locs rfl) ?_ rfl rfl rfl (by decide))
        intro g L' h₁ FG F' N' B' X' T'
        (try dsimp only); (try k_fold)
        k_steps
        refine Stop.of ?_
        refine cut_no _ ?_ ?_
        · rename Stops 5 => im2
          clear im2
          by_cases hlo : c < 48
          · clear hfig
            k_steps
            all_goals first | exact ⟨_, rfl, rfl⟩ | (exfalso; omega) | exact ⟨_, decide_eq_false (by omega), rfl⟩ | (trace_state; exact ⟨_, by simp; omega, rfl⟩)
          · have hhi : 59 < c := by omega
            clear hfig
            k_steps
            all_goals first | exact ⟨_, rfl, rfl⟩ | (exfalso; omega) | exact ⟨_, decide_eq_false (by omega), rfl⟩ | (trace_state; exact ⟨_, by simp; omega, rfl⟩)
        rename Stops 5 => im2
        clear im2
        intro tk9
        clear hfig
        k_steps
        all_goals try (exfalso; omega)
        rename_i Tc kX
        rename Fr h₀ L _ _ => kF; rename News h₀ L _ _ => kN
        rw [← hfr] at kN
        exact ret false _ _ _ eb kF (news_sub kN (fun q hq => hq)) ⟨f, p, v, fs, ps, nf, np, _, _, _, _, _, _, _, _, fz, rfl, ⟨nxd, nxf, nxp, ndf, ndp, nfp⟩, hz, hF, hP, hv⟩ hO
end
end
section
section
theorem reorder9 {h₀ h : Heap} {L : Addr} {d q1 q2 q3 q4 q5 : Addr × Obj} {l9 fr : List (Addr × Obj)} (N : News h₀ L h (d :: (l9 ++ (q1 :: q2 :: q3 :: q4 :: q5 :: fr)))) : ∃ gr, gr = l9 ++ fr ∧ News h₀ L h (d :: q1 :: q2 :: q3 :: q4 :: q5 :: gr) :=
  ⟨_, rfl, news_sub N fun p hp => by simp only [List.mem_cons, List.mem_append] at hp ⊢; grind⟩
theorem reorder9b {h₀ h : Heap} {L : Addr} {d q1 q2 q3 q4 q5 : Addr × Obj} {l9 fz rest : List (Addr × Obj)} (N : News h₀ L h (d :: q1 :: q2 :: q3 :: q4 :: q5 :: (l9 ++ (fz ++ rest)))) : News h₀ L h (d :: ((q1 :: l9) ++ ((q2 :: q3 :: q4 :: q5 :: fz) ++ rest))) :=
  news_sub N fun p hp => by simp only [List.mem_cons, List.mem_append, List.cons_append] at hp ⊢; grind
theorem take_snoc {α : Type} {l : List α} {i : Nat} (h : i < l.length) : l.take (i + 1) = l.take i ++ [l[i]] := by
  rw [List.take_add_one, List.getElem?_eq_getElem h]; rfl
theorem row_dat {l9 : List (Addr × Obj)} {a : Addr} {us : List Value} {n : Nat} {row : List (Option Int)} (hm : (a, listOf us.toArray n) ∈ l9) (h : DatAll [] us (row.map vD)) : DatIn l9 (.ref a) (rowD row) :=
  DatIn.list hm (h.mono (by intro q hq; cases hq))
theorem vs_nil {l9 : List (Addr × Obj)} : ∀ {us : List Value} {row : List (Option Int)}, DatAll l9 us (row.map vD) → DatAll [] us (row.map vD)
  | _, [], h => by cases h; exact .nil
  | _, x :: row, h => by
    cases h with
    | cons h1 h2 =>
      refine .cons ?_ (vs_nil h2)
      cases x with
      | none => have := v_none h1; subst this; exact .none
      | some i => obtain ⟨t, rfl⟩ := v_some h1; exact .int _ _
def PlEnd (g : Heap) (L D : Addr) (m : Str → Option Value) (s : Shared) (NW : List (Addr × Obj)) (row : List Dat) (v : Flow) (s' : Shared) : Prop :=
  ∃ (pl : List Value) (np : Nat) (h' : Heap) (tk' : Nat), v = Flow.next ∧ s' = { s with heap := h', toks := tk' } ∧ Fr g L h' m ∧ News g L h' ((D, listOf pl.toArray np) :: NW) ∧ DatAll [] pl row ∧ pl.length ≤ 41
theorem cut_pl {prog : Program} {A : Around} {t : Sem Flow} {Q : Flow → Shared → Prop} {E : Value → Shared → Prop} {s : Shared} {g : Heap} {L D : Addr} {m : Str → Option Value} {vs : List Value} {n : Nat} {NW : List (Addr × Obj)} {row : List Dat} (_F : Fr g L s.heap m) (_N : News g L s.heap ((D, listOf vs.toArray n) :: NW))
    (h : wpAny (model prog w) A t (PlEnd g L D m s NW row) E s)
    (k : ∀ (pl : List Value) (np : Nat) (h' : Heap) (tk' : Nat), Fr g L h' m → News g L h' ((D, listOf pl.toArray np) :: NW) → DatAll [] pl row → pl.length ≤ 41 → Q Flow.next { s with heap := h', toks := tk' }) : wpAny (model prog w) A t Q E s :=
  wpAny_mono h (fun v s' ⟨pl, np, h', tk', e1, e2, F, N, hD, hl⟩ => by rw [e1, e2]; exact k pl np h' tk' F N hD hl) fun _ _ z => z
theorem params_m {x dx : Addr} {most limit : Int} {st : St} {nx rest : List (Addr × Obj)}
   (B : Below A₀ base outer h₀) (F : Fr h₀ L s.heap m) (X : (Mine.hd.heap_39 w.params).In h₀) (N : News h₀ L s.heap (nx ++ rest))
   (T : Top Mine.hd.view_39 loose mean mg mb h₀) (hk : cs.kind = .function) (hdp : dp + 30 < recursionLimit) (hun : un + 400 < cLine)
   (hR : RI w x dx most limit st nx) (hok : StOk most limit st) (hm0 : 0 ≤ most) (hm1 : most ≤ 32) (hl0 : 0 ≤ limit) (hl1 : limit ≤ 65535)
   (ret : ∀ r vs nr l9 h' tk', DatAll l9 vs ((paramsS most st).map rowD) → Fr h₀ L h' m → News h₀ L h' ((r, listOf vs.toArray nr) :: (l9 ++ (nx ++ rest))) → Q (.ref r) { s with heap := h', toks := tk' }) :
   wpAny (model PySem.Challenge.rw_np0269_01.row.prog w) (ktrTop dp un gd cn cs L a ccd cl outer) (call (.ref 69) [.ref x]) Q E s := by
  w_top off
  revert X; k_fill; intro X
  refine wpAny_call ?_
  have st12 : Stops 12 := .mk
  obtain ⟨f, p, v, fs, ps, nf, np, t1, t2, t3, t4, t5, t6, tm, tl, fz, rfl, ⟨nxd, nxf, nxp, ndf, ndp, nfp⟩, hz, hF, hP, hv⟩ := hR
  have hfl := hF.length
  have hpl := hP.length
  rw [List.length_map] at hfl hpl
  obtain ⟨hk1, hk2, hk3, hk4, hk5⟩ := hok
  simp only [List.cons_append] at N
  have hfz : ∀ q ∈ fz, q ∈ fz ++ rest := fun q hq => List.mem_append.mpr (.inl hq)
  generalize hfr : fz ++ rest = fr at N hfz
  cases hbg : st.begun with
  | false =>
    rw [hbg] at N
    have eP : paramsS most st = [] := by unfold paramsS; rw [hbg]; rfl
    rw [eP] at ret
    k_dflt (refine code_def (binds := [(Str.ofString "self", .ref x)]) B F X N T rfl rfl hk (by k_is) (by k_is) (by k_room) (BindsTo.of_eq rfl) (locs rfl) ?_ rfl rfl rfl (by decide))
    intro g L' h₁ FG F' N' B' X' T'
    (try dsimp only); (try k_fold)
    k_steps
    rename_i Tc kX
    rename Fr h₀ L _ _ => kF; rename News h₀ L _ _ => kN
    rw [← hfr] at kN
    rw [hbg] at ret
    exact ret _ [] 0 [] _ _ .nil kF kN
  | true =>
    rw [hbg] at N ret
    have eP : paramsS most st = (if (st.found.length : Int) < most then st.found ++ [if (st.parts.length : Int) < most then st.parts ++ [st.value] else st.parts] else st.found) := by unfold paramsS; rw [hbg]; rfl
    rw [eP] at ret
    k_dflt (refine code_def (binds := [(Str.ofString "self", .ref x)]) B F X N T rfl rfl hk (by k_is) (by k_is) (by k_room) (BindsTo.of_eq rfl) (locs rfl) ?_ rfl rfl rfl (by decide))
    intro g L' h₁ FG F' N' B' X' T'
    (try dsimp only); (try k_fold)
    have imk : Stops 2 := .mk
    k_steps
    refine Stop.of ?_
    rename Fr _ _ _ _ => F1; rename News _ _ _ ((_, listOf ps.toArray _) :: _) => N1
    refine cut_pl _ (row := (if (st.parts.length : Int) < most then st.parts ++ [st.value] else st.parts).map vD) F1 N1 ?_ ?_
    · rename Stops 2 => im2
      clear im2
      by_cases hlt : (st.parts.length : Int) < most
      · have hlt' : (ps.length : Int) < most := by omega
        have hul : ps.length ≤ 40 := by omega
        k_steps
        rename Fr _ _ _ _ => F2; rename News _ _ _ _ => N2
        rw [List.push_toArray] at N2
        refine ⟨_, _, _, _, rfl, rfl, F2, N2, ?_, ?_⟩
        · rw [if_pos hlt, List.map_append]; exact hP.append (.cons hv .nil)
        · rw [List.length_append, List.length_singleton]; omega
      · have hlt' : ¬ (ps.length : Int) < most := by omega
        k_steps
        rename Fr _ _ _ _ => F2; rename News _ _ _ _ => N2
        exact ⟨_, _, _, _, rfl, rfl, F2, N2, by rw [if_neg hlt]; exact hP, by omega⟩
    clear F1 N1
    rename Stops 2 => im2
    clear im2
    intro pl npl h5 tk5 F5 N5 hPP hpll
    k_steps
    refine Stop.of ?_
    rename Fr _ _ _ _ => F1; rename News _ _ _ _ => N1
    obtain ⟨nw0, hnw0, N2⟩ : ∃ nw0, nw0 = _ ∧ News _ _ _ nw0 := ⟨_, rfl, N1⟩
    clear N1; rename News _ _ _ nw0 => N1
    refine src_ledgerA (fun i ys nw => ∃ l9, nw = l9 ++ nw0 ∧ DatAll l9 ys ((st.found.take i).map rowD)) rfl F1 N1 (by rw [hnw0]; exact .tail _ (.tail _ (.tail _ (.head _)))) ?_ ⟨[], rfl, .nil⟩ ?_ ?_
    · rw [sizeLine_eq]; omega
    · clear F1 N1
      rintro i y ys nw I oI C oC D' m₂ h tk E' hi ⟨l9, hnw, hJ⟩ hS hv2 hC hx F2 N2 off ne
      have hir : i < (st.found.map rowD).length := by rw [List.length_map]; omega
      obtain ⟨y', hy', hyD⟩ := hF.get hir
      rw [hv2] at hy'
      obtain rfl := Option.some.inj hy'
      rw [List.getElem_map] at hyD
      obtain ⟨a1, us, n1, rfl, hm1', hu⟩ := row_in hyD
      have hm2 : (a1, W.listOf us.toArray n1) ∈ nw := by
        rw [hnw, hnw0]
        exact List.mem_append.mpr (.inr (.tail _ (.tail _ (.tail _ (.tail _ (.tail _ (hfz _ hm1')))))))
      have hul2 := hu.length
      rw [List.length_map] at hul2
      have hrow := hk4 st.found[i] (List.getElem_mem _)
      have hus : us.length ≤ 40 := by omega
      (try k_unmd); (try k_fold)
      k_steps
      refine list_copyK F2 N2 ⟨_, (N2 _ (.tail _ (.tail _ (.tail _ hm2)))).1, rfl, _, rfl⟩ (fun c nc h9 F3 N3 l3 => ?_) (by rw [List.size_toArray, sizeLine_eq]; omega)
      k_steps
      refine end2 [(c, W.listOf us.toArray nc)] F3 N3 ?_ off ?_ ?_ ?_
      · intro q hq
        simp only [List.mem_cons, List.cons_append, List.nil_append] at hq ⊢
        grind
      · intro q hq
        rw [List.mem_singleton.mp hq]
        exact ⟨Nat.ne_of_gt (l3 _ (.head _)), Nat.ne_of_gt (l3 _ (.tail _ (.head _))), Nat.ne_of_gt (l3 _ (.tail _ (.tail _ (.head _))))⟩
      · exact .inr ⟨_, by rw [hnw, hnw0]; exact List.mem_append.mpr (.inr (List.mem_append.mpr (.inr (.tail _ (.tail _ (.tail _ (.head _))))))), rfl, _, rfl⟩
      · refine ⟨(c, W.listOf us.toArray nc) :: l9, by rw [hnw]; rfl, ?_⟩
        rw [take_snoc (by omega), List.map_append]
        refine (hJ.mono fun q hq => .tail _ hq).append (.cons (row_dat (.head _) (vs_nil hu)) .nil)
    · clear F1 N1
      rintro ys D2 h' tk' nw ⟨l9, hnw, hJ⟩ F2 N2 o1
      have o2 := off1_mem o1
      rw [hnw, hnw0] at o2 N2
      rw [hfl, List.take_length] at hJ
      have hjl := hJ.length
      rw [List.length_map] at hjl
      obtain ⟨gr, hgr, N3⟩ := reorder9 N2
      have ogr : ∀ q ∈ gr, q.1 ≠ D2 := by
        intro q hq
        rw [hgr] at hq
        refine o2 q ?_
        simp only [List.mem_cons, List.mem_append] at hq ⊢
        grind
      have op := o2 _ (List.mem_append.mpr (.inr (.head _)))
      have ox := o2 _ (List.mem_append.mpr (.inr (.tail _ (.head _))))
      have odx := o2 _ (List.mem_append.mpr (.inr (.tail _ (.tail _ (.head _)))))
      have off := o2 _ (List.mem_append.mpr (.inr (.tail _ (.tail _ (.tail _ (.head _))))))
      have opp := o2 _ (List.mem_append.mpr (.inr (.tail _ (.tail _ (.tail _ (.tail _ (.head _)))))))
      dsimp only at op ox odx off opp
      clear N2 o2 o1
      by_cases hfl2 : (st.found.length : Int) < most
      · have hfl' : (ys.length : Int) < most := by omega
        have hyl : ys.length ≤ 40 := by omega
        rw [if_pos hfl2] at ret
        k_steps
        rename_i Tc kX
        rename Fr h₀ L _ _ => kF; rename News h₀ L _ _ => kN
        rw [hgr, ← hfr, List.push_toArray] at kN
        refine ret _ _ _ _ _ _ ?_ kF (reorder9b kN)
        rw [List.map_append]
        exact (hJ.mono fun q hq => .tail _ hq).append (.cons (row_dat (.head _) hPP) .nil)
      · have hfl' : ¬ (ys.length : Int) < most := by omega
        rw [if_neg hfl2] at ret
        k_steps
        rename_i Tc kX
        rename Fr h₀ L _ _ => kF; rename News h₀ L _ _ => kN
        rw [hgr, ← hfr] at kN
        exact ret _ _ _ _ _ _ (hJ.mono fun q hq => .tail _ hq) kF (reorder9b kN)
end
end
section
section
theorem ri_clear {w : World} {h₀ h : Heap} {L x d f p : Addr} {most limit : Int} {np nf : Nat} {t1 t2 t3 t4 t5 t6 tm tl : Tok} {q5 q6 : Addr × Obj} {fr rest : List (Addr × Obj)}
    (N : News h₀ L h ((p, listOf #[] np) :: (f, listOf #[] nf) :: (x, instObj 72 d) :: (d, rdOf w t1 t2 t3 t4 t5 t6 tm tl most limit f p .none false) :: q5 :: q6 :: fr))
    (hrr : ∀ q ∈ rest, q ∈ fr) (nxd : @Ne Nat x d) (xf : @LT.lt Nat _ x f) (df : @LT.lt Nat _ d f) (fp : @LT.lt Nat _ f p) (lf : AllLt f fr) (rrx : ∀ q ∈ rest, @Ne Nat q.1 x) (rrd : ∀ q ∈ rest, @Ne Nat q.1 d) : ∃ nx, RI w x d most limit st0 nx ∧ News h₀ L h (nx ++ rest) ∧ OwnOff rest (nx.map (·.1)) := by
  refine ⟨[(x, instObj 72 d), (d, rdOf w t1 t2 t3 t4 t5 t6 tm tl most limit f p .none false), (f, listOf (List.toArray []) nf), (p, listOf (List.toArray []) np)], ri_new ⟨nxd, Nat.ne_of_lt xf, Nat.ne_of_lt (Nat.lt_trans xf fp), Nat.ne_of_lt df, Nat.ne_of_lt (Nat.lt_trans df fp), Nat.ne_of_lt fp⟩, ?_, ?_⟩
  · generalize (p, listOf (List.toArray []) np) = q4 at N ⊢
    generalize (f, listOf (List.toArray []) nf) = q3 at N ⊢
    generalize (d, rdOf w t1 t2 t3 t4 t5 t6 tm tl most limit f p .none false) = q2 at N ⊢
    generalize (x, instObj 72 d) = q1 at N ⊢
    exact news_sub N fun q hq => by
      have := hrr q
      simp only [List.cons_append, List.nil_append, List.mem_cons] at hq ⊢
      grind
  · intro q hq b hb
    have q0 : @LT.lt Nat _ q.1 f := tb_ltOf lf q (hrr q hq)
    have : b = x ∨ b = d ∨ b = f ∨ b = p := by
      rcases List.mem_cons.mp hb with h | hb
      · exact .inl h
      · rcases List.mem_cons.mp hb with h | hb
        · exact .inr (.inl h)
        · rcases List.mem_cons.mp hb with h | hb
          · exact .inr (.inr (.inl h))
          · exact .inr (.inr (.inr (List.mem_singleton.mp hb)))
    rcases this with h | h | h | h
    · rw [h]; exact rrx q hq
    · rw [h]; exact rrd q hq
    · rw [h]; exact Nat.ne_of_lt q0
    · rw [h]; exact Nat.ne_of_lt (Nat.lt_trans q0 fp)
theorem clear_walk {x dx : Addr} {most limit : Int} {st : St} {nx rest : List (Addr × Obj)}
   (B : Below A₀ base outer h₀) (F : Fr h₀ L s.heap m) (X : (Mine.hd.heap_39 w.params).In h₀) (N : News h₀ L s.heap (nx ++ rest))
   (T : Top Mine.hd.view_39 loose mean mg mb h₀) (hk : cs.kind = .function) (hdp : dp + 30 < recursionLimit) (hun : un + 400 < cLine)
   (hR : RI w x dx most limit st nx) (hO : OwnOff rest (nx.map (·.1)))
   (ret : ∀ h' tk' nx', Fr h₀ L h' m → News h₀ L h' (nx' ++ rest) → RI w x dx most limit st0 nx' → OwnOff rest (nx'.map (·.1)) → Q .none { s with heap := h', toks := tk' }) :
   wpAny (model PySem.Challenge.rw_np0269_01.row.prog w) (ktrTop dp un gd cn cs L a ccd cl outer) (call (.ref 43) [.ref x]) Q E s := by
  w_top off
  revert X; k_fill; intro X
  refine wpAny_call ?_
  have st12 : Stops 12 := .mk
  obtain ⟨f, p, v, fs, ps, nf, np, t1, t2, t3, t4, t5, t6, tm, tl, fz, rfl, ⟨nxd, nxf, nxp, ndf, ndp, nfp⟩, hz, hF, hP, hv⟩ := hR
  have rx : ∀ q ∈ fz ++ rest, q.1 ≠ x := fun q hq => (List.mem_append.mp hq).elim (fun h => (hz q h).1) fun h => hO q h x (.head _)
  have rdx : ∀ q ∈ fz ++ rest, q.1 ≠ dx := fun q hq => (List.mem_append.mp hq).elim (fun h => (hz q h).2.1) fun h => hO q h dx (.tail _ (.head _))
  have rf : ∀ q ∈ fz ++ rest, q.1 ≠ f := fun q hq => (List.mem_append.mp hq).elim (fun h => (hz q h).2.2.1) fun h => hO q h f (.tail _ (.tail _ (.head _)))
  have rp : ∀ q ∈ fz ++ rest, q.1 ≠ p := fun q hq => (List.mem_append.mp hq).elim (fun h => (hz q h).2.2.2) fun h => hO q h p (.tail _ (.tail _ (.tail _ (.head _))))
  have rrx : ∀ q ∈ rest, @Ne Nat q.1 x := fun q h => hO q h x (.head _)
  have rrd : ∀ q ∈ rest, @Ne Nat q.1 dx := fun q h => hO q h dx (.tail _ (.head _))
  simp only [List.cons_append] at N
  generalize hfr : fz ++ rest = fr at N rx rdx rf rp
  have hrr : ∀ q ∈ rest, q ∈ fr := fun q hq => by rw [← hfr]; exact List.mem_append.mpr (.inr hq)
  k_dflt (refine code_def (binds := [(Str.ofString "self", .ref x)]) B F X N T rfl rfl hk (by k_is) (by k_is) (by k_room) (BindsTo.of_eq rfl) (locs rfl) ?_ rfl rfl rfl (by decide))
  intro g L' h₁ FG F' N' B' X' T'
  (try dsimp only); (try k_fold)
  k_steps
  rename Fr h₀ L _ _ => kF; rename News h₀ L _ _ => kN
  rename _ ∧ _ ∧ _ ∧ _ ∧ _ ∧ AllLt _ fr => l3; rename _ ∧ _ ∧ _ ∧ _ ∧ AllLt _ fr => l2
  obtain ⟨nx, hR, N3, O3⟩ := ri_clear kN hrr nxd l2.1 l2.2.1 l3.1 l2.2.2.2.2 rrx rrd
  exact ret _ _ nx kF N3 hR O3
end
end
section
section
theorem read_gen {args : List Value} {b : Array UInt8} {most limit : Int} {tb tm tl : Tok} {news : List (Addr × Obj)}
   (B : Below A₀ base outer h₀) (F : Fr h₀ L s.heap m) (X : (Mine.hd.heap_39 w.params).In h₀) (N : News h₀ L s.heap news)
   (T : Top Mine.hd.view_39 loose mean mg mb h₀) (hk : cs.kind = .function) (hdp : dp + 50 < recursionLimit) (hun : un + 600 < cLine)
   (hm0 : 0 ≤ most) (hm1 : most ≤ 32) (hl0 : 0 ≤ limit) (hl1 : limit ≤ 65535)
   (hb : ∀ o od fn osl, (Mine.hd.heap_39 w.params).lookup 84 = some (PySem.Obj.mk o od (.func fn) osl) → BindsTo s fn ⟨args, []⟩ [(Str.ofString "octets", .bytes b tb), (Str.ofString "most", .int most tm), (Str.ofString "limit", .int limit tl)])
   (ret : ∀ r vs nr l9 h' tk', DatAll l9 vs ((paramsS most (runS most limit (octs b) st0)).map rowD) → Fr h₀ L h' m → News h₀ L h' ((r, listOf vs.toArray nr) :: (l9 ++ news)) → Q (.ref r) { s with heap := h', toks := tk' }) :
   wpAny (model PySem.Challenge.rw_np0269_01.row.prog w) (ktrTop dp un gd cn cs L a ccd cl outer) (call (.ref 84) args) Q E s := by
  w_top off
  revert X; k_fill; intro X
  refine wpAny_call ?_
  have st12 : Stops 12 := .mk
  have st3 : Stops 3 := .mk
  have st50 : Stops 50 := .mk
  have st69 : Stops 69 := .mk
  k_dflt (refine code_def (binds := [(Str.ofString "octets", .bytes b tb), (Str.ofString "most", .int most tm), (Str.ofString "limit", .int limit tl)]) B F X N T rfl rfl hk (by k_is) (by k_is) (by k_room) (hb _ _ _ _ rfl) (locs rfl) ?_ rfl rfl rfl (by decide))
  intro g L' h₁ FG F' N' B' X' T'
  (try dsimp only); (try k_fold)
  k_steps
  refine Stop.of ?_
  rename Fr g L' _ _ => F1; rename News g L' _ _ => N1
  rename ∀ q ∈ news, q.1 < _ => l0; rename_i q1 q2
  rename _ ∧ _ ∧ _ ∧ AllLt _ news => l3; rename _ ∧ _ ∧ AllLt _ news => l2
  rename (_ : Nat) < (_ : Nat) => l1
  obtain ⟨nx, hR, N2, hO⟩ := ri_start N1 l0 l1 l2.1 l3.1
  clear N1
  obtain ⟨m0, hme, F2⟩ : ∃ m0, m0 = _ ∧ Fr g L' _ m0 := ⟨_, rfl, F1⟩
  clear F1
  refine bytes_J (fun i m₁ nw => (∀ y, y ≠ Str.ofString "octet" → m₁ y = m0 y) ∧ ∃ nx, nw = nx ++ news ∧ RI w _ _ most limit (runS most limit ((octs b).take i) st0) nx ∧ OwnOff news (nx.map (·.1))) rfl F2 N2 ⟨fun _ _ => rfl, nx, rfl, hR, hO⟩ ?_ ?_
  · clear F2 N2 hR hO
    rintro i c u m₁ nw h tk own hc hoff ⟨hm, nx, rfl, hR, hO⟩ F1 N1
    rw [map_over hm, hme] at F1
    have hR' := hR
    obtain ⟨f, p, v, fs, ps, nf, np, t1, t2, t3, t4, t5, t6, tm, tl, fz, hnx, _⟩ := hR'
    rw [hnx] at N1
    simp only [List.cons_append, List.append_assoc] at N1
    obtain ⟨gr, hgr, N2⟩ : ∃ gr, gr = fz ++ (news ++ own) ∧ News _ _ _ (_ :: _ :: _ :: _ :: gr) := ⟨_, rfl, N1⟩
    clear N1
    (try k_unmd); (try k_fold)
    k_steps
    refine Stop.of ?_
    have hok := runS_ok hm0 hl0 ((octs b).take i) (st0_ok (limit := limit) hm0)
    have N3 : News _ _ _ (nx ++ (news ++ own)) := news_sub N2 (fun q hq => by rw [hgr]; rw [hnx] at hq; simpa only [List.cons_append] using hq)
    have hO3 : OwnOff (news ++ own) _ := own_app hO (off_left hoff)
    have hon := off_right hoff
    have hci := byte_in c
    k_dflt (refine put_walk w B' F1 X' N3 T' rfl (by k_room) (by k_units) hR hO3 hok hm0 hm1 hl0 hl1 hci.1 hci.2 ?_)
    clear F1 N2 N3 hR hO hO3 hoff
    intro bb h3 tk3 nx3 hb F3 N3 R3 O3
    k_steps
    refine lend (nx3 ++ news) F3 N3 (fun q hq => by simpa only [List.append_assoc] using hq) (off_app (own_right O3) hon) ⟨fun y hy => ?_, nx3, rfl, ?_, own_left O3⟩
    · rw [hme]; simp [hy]
    · rw [run_step hc]; exact R3
  · clear F2 N2 hR hO
    rintro m₁ nw h tk ⟨hm, nx, rfl, hR, hO⟩ F1 N1
    rw [← map_done hm, hme] at F1
    have hok := runS_ok hm0 hl0 (octs b) (st0_ok (limit := limit) hm0)
    rw [← octs_len, List.take_length] at hR
    have hR' := hR
    obtain ⟨f, p, v, fs, ps, nf, np, t1, t2, t3, t4, t5, t6, tm, tl, fz, hnx, _⟩ := hR'
    rw [hnx] at N1
    simp only [List.cons_append, List.append_assoc] at N1
    obtain ⟨gr, hgr, N2⟩ : ∃ gr, gr = fz ++ news ∧ News _ _ _ (_ :: _ :: _ :: _ :: gr) := ⟨_, rfl, N1⟩
    clear N1
    (try k_unmd); (try k_fold)
    k_steps
    refine Stop.of ?_
    have N3 : News _ _ _ (nx ++ news) := news_sub N2 (fun q hq => by rw [hgr]; rw [hnx] at hq; simpa only [List.cons_append] using hq)
    k_dflt (refine params_m w B' F1 X' N3 T' rfl (by k_room) (by k_units) hR hok hm0 hm1 hl0 hl1 ?_)
    clear F1 N2 N3
    intro r vs nr l9 h3 tk3 hD F3 N3
    k_steps
    rename_i Tc kX
    rename Fr h₀ L _ _ => kF; rename News h₀ L _ _ => kN
    exact ret _ _ _ l9 _ _ hD kF (news_sub kN fun q hq => by
      simp only [List.mem_cons, List.mem_append] at hq ⊢
      rcases hq with hq | hq | hq
      · exact .inl hq
      · exact .inr (.inl hq)
      · exact .inr (.inr (.inr hq)))
theorem read_walk {b : Array UInt8} {most limit : Int} {tb tm tl : Tok} {news : List (Addr × Obj)}
   (B : Below A₀ base outer h₀) (F : Fr h₀ L s.heap m) (X : (Mine.hd.heap_39 w.params).In h₀) (N : News h₀ L s.heap news)
   (T : Top Mine.hd.view_39 loose mean mg mb h₀) (hk : cs.kind = .function) (hdp : dp + 50 < recursionLimit) (hun : un + 600 < cLine)
   (hm0 : 0 ≤ most) (hm1 : most ≤ 32) (hl0 : 0 ≤ limit) (hl1 : limit ≤ 65535)
   (ret : ∀ r vs nr l9 h' tk', DatAll l9 vs ((paramsS most (runS most limit (octs b) st0)).map rowD) → Fr h₀ L h' m → News h₀ L h' ((r, listOf vs.toArray nr) :: (l9 ++ news)) → Q (.ref r) { s with heap := h', toks := tk' }) :
   wpAny (model PySem.Challenge.rw_np0269_01.row.prog w) (ktrTop dp un gd cn cs L a ccd cl outer) (call (.ref 84) [.bytes b tb, .int most tm, .int limit tl]) Q E s := by
  refine read_gen w (tb := tb) (tm := tm) (tl := tl) B F X N T hk hdp hun hm0 hm1 hl0 hl1 (fun o od fn osl e => ?_) ret
  have e1 := Option.some.inj (show some _ = some _ from e)
  injection e1 with _ _ e2 _
  injection e2 with e3
  rw [← e3]
  exact binds_K (X.keeps F.keep) rfl (by k_is) rfl rfl rfl
theorem read1_walk {b : Array UInt8} {tb : Tok} {news : List (Addr × Obj)}
   (B : Below A₀ base outer h₀) (F : Fr h₀ L s.heap m) (X : (Mine.hd.heap_39 w.params).In h₀) (N : News h₀ L s.heap news)
   (T : Top Mine.hd.view_39 loose mean mg mb h₀) (hk : cs.kind = .function) (hdp : dp + 50 < recursionLimit) (hun : un + 600 < cLine)
   (ret : ∀ r vs nr l9 h' tk', DatAll l9 vs ((paramsS 32 (runS 32 65535 (octs b) st0)).map rowD) → Fr h₀ L h' m → News h₀ L h' ((r, listOf vs.toArray nr) :: (l9 ++ news)) → Q (.ref r) { s with heap := h', toks := tk' }) :
   wpAny (model PySem.Challenge.rw_np0269_01.row.prog w) (ktrTop dp un gd cn cs L a ccd cl outer) (call (.ref 84) [.bytes b tb]) Q E s := by
  refine read_gen w (tb := tb) (tm := (281 : Nat)) (tl := (282 : Nat)) B F X N T hk hdp hun (by decide) (by decide) (by decide) (by decide) (fun o od fn osl e => ?_) ret
  have e1 := Option.some.inj (show some _ = some _ from e)
  injection e1 with _ _ e2 _
  injection e2 with e3
  rw [← e3]
  exact binds_K (X.keeps F.keep) rfl (by k_is) rfl rfl rfl
end
end
section
def decV (l : List Int) : Int := l.foldl (fun a c => 10 * a + c - 48) 0
def numberOf (limit : Int) (l : List Int) : Option Int := if l = [] then none else some (min limit (decV l))
theorem decV_snoc (l : List Int) (c : Int) : decV (l ++ [c]) = 10 * decV l + c - 48 := by unfold decV; rw [List.foldl_append]; rfl
theorem decV_bd : ∀ (n : Nat) (l : List Int), l.length = n → (∀ c ∈ l, 48 ≤ c ∧ c ≤ 57) → 0 ≤ decV l ∧ decV l < 10 ^ n := by
  intro n
  induction n with
  | zero => intro l h _; rw [List.length_eq_zero_iff.mp h]; exact ⟨Int.le_refl 0, by decide⟩
  | succ n ih =>
    intro l h hc
    have hne : l ≠ [] := by intro e; rw [e] at h; cases h
    have e := List.dropLast_concat_getLast hne
    rw [← e, decV_snoc]
    have hl : l.dropLast.length = n := by rw [List.length_dropLast, h]; rfl
    obtain ⟨h0, h1⟩ := ih _ hl fun c hm => hc c (List.dropLast_subset _ hm)
    obtain ⟨h2, h3⟩ := hc _ (List.getLast_mem hne)
    rw [Int.pow_succ]
    omega
section
theorem number_walk {b : Array UInt8} {limit : Int} {tb tl : Tok} {news : List (Addr × Obj)}
   (B : Below A₀ base outer h₀) (F : Fr h₀ L s.heap m) (X : (Mine.hd.heap_39 w.params).In h₀) (N : News h₀ L s.heap news)
   (T : Top Mine.hd.view_39 loose mean mg mb h₀) (hk : cs.kind = .function) (hdp : dp + 30 < recursionLimit) (hun : un + 400 < cLine)
   (hb : ∀ c ∈ octs b, 48 ≤ c ∧ c ≤ 57) (hsz : b.size ≤ 100) (hl0 : 0 ≤ limit) (hl1 : limit ≤ 65535)
   (ret : ∀ v h' tk', DatIn [] v (vD (numberOf limit (octs b))) → Fr h₀ L h' m → News h₀ L h' news → Q v { s with heap := h', toks := tk' }) :
   wpAny (model PySem.Challenge.rw_np0269_01.row.prog w) (ktrTop dp un gd cn cs L a ccd cl outer) (call (.ref 135) [.bytes b tb, .int limit tl]) Q E s := by
  w_top off
  revert X; k_fill; intro X
  refine wpAny_call ?_
  have st12 : Stops 12 := .mk
  have st3 : Stops 3 := .mk
  k_dflt (refine code_def (binds := [(Str.ofString "octets", .bytes b tb), (Str.ofString "limit", .int limit tl)]) B F X N T rfl rfl hk (by k_is) (by k_is) (by k_room) (BindsTo.of_eq rfl) (locs rfl) ?_ rfl rfl rfl (by decide))
  intro g L' h₁ FG F' N' B' X' T'
  (try dsimp only); (try k_fold)
  k_steps
  · rename_i hbe kF kN Tc kX
    have e : b.toList = [] := by simpa using hbe
    have e2 : numberOf limit (octs b) = none := by unfold numberOf octs; rw [e]; rfl
    exact ret _ _ _ (e2 ▸ .none) kF kN
  · refine Stop.of ?_
    rename Fr g L' _ _ => F1; rename News g L' _ _ => N1; rename (b.toList == _) = false => hbe
    have hne : octs b ≠ [] := by
      intro e
      unfold octs at e
      rw [List.map_eq_nil_iff.mp e] at hbe
      cases hbe
    obtain ⟨m0, hme, F2⟩ : ∃ m0, m0 = _ ∧ Fr g L' _ m0 := ⟨_, rfl, F1⟩
    clear F1
    refine bytes_J (fun i m₁ nw => (∀ y, y ≠ Str.ofString "sign" → y ≠ Str.ofString "found" → m₁ y = m0 y) ∧ nw = news ∧ ∃ t, m₁ (Str.ofString "found") = some (.int (decV ((octs b).take i)) t)) rfl F2 N1 ⟨fun _ _ _ => rfl, rfl, _, by rw [hme]; rfl⟩ ?_ ?_
    · clear F2 N1
      rintro i c u m₁ nw h tk own hc hoff ⟨hm, rfl, t, hfo⟩ F1 N1
      rw [map_one hfo hm, hme] at F1
      have hi : i < b.size := by
        rcases Nat.lt_or_ge i b.size with h | h
        · exact h
        · rw [Array.getElem?_eq_none h] at hc; cases hc
      have hbd := decV_bd i ((octs b).take i) (by rw [List.length_take, octs_len]; omega) fun c hc => hb c (List.mem_of_mem_take hc)
      have hcc := hb _ (List.mem_of_getElem? (octs_at hc))
      have hstep : decV ((octs b).take (i + 1)) = 10 * decV ((octs b).take i) + (c.toNat : Int) - 48 := by
        rw [List.take_add_one, octs_at hc]; exact decV_snoc _ _
      have hpow : (10 : Int) ^ i ≤ 10 ^ 100 := by
        have : 10 ^ i ≤ 10 ^ 100 := Nat.pow_le_pow_right (by decide) (by omega)
        exact_mod_cast this
      have hlt : decV ((octs b).take i) < 10 ^ 100 := Int.lt_of_lt_of_le hbd.2 hpow
      have h0 := hbd.1
      clear hbd hpow
      generalize decV ((octs b).take i) = dv at F1 hstep hlt h0
      (try k_unmd); (try k_fold)
      k_steps
      rename Fr g L' _ _ => F3; rename News g L' _ (nw ++ own) => N3
      refine lend nw F3 N3 (fun q hq => hq) hoff ⟨fun y h1 h2 => ?_, rfl, ?_⟩
      · rw [hme]; simp [h1, h2]
      · rw [hstep]; exact ⟨_, if_pos rfl⟩
    · clear F2 N1
      rintro m₁ nw h tk ⟨hm, rfl, t, hfo⟩ F1 N1
      rw [← done_one hfo hm, hme] at F1
      rw [← octs_len, List.take_length] at hfo
      rw [← octs_len, List.take_length] at F1
      have e2 : numberOf limit (octs b) = some (min limit (decV (octs b))) := by unfold numberOf; rw [if_neg hne]
      rw [e2] at ret
      generalize decV (octs b) = dv at F1 ret
      (try k_unmd); (try k_fold)
      k_steps
      rename Fr h₀ L _ _ => kF; rename News h₀ L _ _ => kN
      have e1 : (if limit < dv then limit else dv) = min limit dv := by split <;> omega
      rw [e1]
      exact ret _ _ _ (.int _ _) kF kN
end
end
section
theorem plainB_in {b : Array UInt8} {i : Nat} {c : UInt8} (h : b[i]? = some c) (hin : 48 ≤ (c.toNat : Int) ∧ (c.toNat : Int) ≤ 59) : plainB (b.toList.take (i + 1)) = plainB (b.toList.take i) ++ [#[c]] := by
  have h' : b.toList[i]? = some c := by simpa using h
  unfold plainB
  rw [List.take_add_one, h', List.filter_append, List.map_append]
  congr 1
  simp [hin]
theorem plainB_out {b : Array UInt8} {i : Nat} {c : UInt8} (h : b[i]? = some c) (hin : ¬ (48 ≤ (c.toNat : Int) ∧ (c.toNat : Int) ≤ 59)) : plainB (b.toList.take (i + 1)) = plainB (b.toList.take i) := by
  have h' : b.toList[i]? = some c := by simpa using h
  unfold plainB
  rw [List.take_add_one, h', List.filter_append, List.map_append]
  have : (Option.some c).toList.filter (fun c => decide (48 ≤ (c.toNat : Int) ∧ (c.toNat : Int) ≤ 59)) = [] := by
    rw [List.filter_eq_nil_iff]
    intro a ha
    have : a = c := by simpa using ha
    rw [this]
    simpa using hin
  rw [this]; simp
theorem byte_back (c : UInt8) : (c.toNat : Int).toNat.toUInt8 = c := by simp
theorem plainB_one (l : List UInt8) : ∀ x ∈ plainB l, x.size ≤ 1 := by
  intro x hx
  obtain ⟨c, _, rfl⟩ := List.mem_map.mp hx
  exact Nat.le_refl _
theorem plainB_len (b : Array UInt8) : (plainB b.toList).length ≤ b.size := by
  unfold plainB
  rw [List.length_map]
  refine Nat.le_trans (List.length_filter_le _ _) ?_
  simp
theorem pick_upto {vs : List Value} {y : Int} (h : 0 ≤ y) : slicePick vs.toArray none (some y) none = (vs.take y.toNat).toArray := by
  rw [kms_pick_eq]
  unfold kms_pick kms_lo kms_hi
  dsimp only
  rw [if_neg (by omega), List.drop_zero, Nat.sub_zero, kmk_take_min]
theorem bytes_at {vs : List Value} {P : Array UInt8} {c : UInt8} {k i : Nat} {v : Value} (hv : BytesAre vs (pieces P c)) (h : (vs.take k)[i]? = some v) : ∃ b t, v = .bytes b t ∧ ((splitL (c.toNat : Int) (octs P)).take k)[i]? = some (octs b) := by
  obtain ⟨b, t, e, hb⟩ := (hv.take k).at i v h
  refine ⟨b, t, e, ?_⟩
  rw [← pieces_octs, ← List.map_take, List.getElem?_map, hb]; rfl
theorem news_dup {h₀ h : Heap} {L : Addr} {a b c d e : Addr × Obj} {nw : List (Addr × Obj)} (N : News h₀ L h (a :: b :: c :: nw)) (h1 : d ∈ nw) (h2 : e ∈ nw) : News h₀ L h (a :: b :: c :: d :: e :: nw) :=
  news_sub N fun q hq => by
    simp only [List.mem_cons] at hq ⊢
    grind
def lreadOf (most limit : Int) (l : List Int) : List (List (Option Int)) :=
  if plainL l = [] then [] else ((splitL 59 (plainL l)).take most.toNat).map fun one => ((splitL 58 one).take most.toNat).map (numberOf limit)
section
theorem lread_walk {b : Array UInt8} {most limit : Int} {tb tm tl : Tok} {news : List (Addr × Obj)}
   (B : Below A₀ base outer h₀) (F : Fr h₀ L s.heap m) (X : (Mine.hd.heap_39 w.params).In h₀) (N : News h₀ L s.heap news)
   (T : Top Mine.hd.view_39 loose mean mg mb h₀) (hk : cs.kind = .function) (hdp : dp + 50 < recursionLimit) (hun : un + 600 < cLine)
   (hsz : b.size ≤ 99) (hm0 : 0 ≤ most) (hm1 : most ≤ 32) (hl0 : 0 ≤ limit) (hl1 : limit ≤ 65535)
   (ret : ∀ r vs nr l9 h' tk', DatAll l9 vs ((lreadOf most limit (octs b)).map rowD) → Fr h₀ L h' m → News h₀ L h' ((r, listOf vs.toArray nr) :: (l9 ++ news)) → (∀ p ∈ (r, listOf vs.toArray nr) :: l9, ∀ q ∈ news, @Ne Nat p.1 q.1) → Q (.ref r) { s with heap := h', toks := tk' }) :
   wpAny (model PySem.Challenge.rw_np0269_01.row.prog w) (ktrTop dp un gd cn cs L a ccd cl outer) (call (.ref 140) [.bytes b tb, .int most tm, .int limit tl]) Q E s := by
  w_top off
  revert X; k_fill; intro X
  refine wpAny_call ?_
  have st12 : Stops 12 := .mk
  have st4 : Stops 4 := .mk
  have st135 : Stops 135 := .mk
  k_dflt (refine code_defC (binds := [(Str.ofString "octets", .bytes b tb), (Str.ofString "most", .int most tm), (Str.ofString "limit", .int limit tl)]) B F X N T rfl rfl hk (by k_is) (by k_is) (by k_room) (BindsTo.of_eq rfl) rfl (by decide +kernel) ?_ rfl rfl rfl)
  intro g L' h₁ tk cells FG F' N' Y B' X' T' l1
  k_cells Y
  rename_i oA oB dA dB
  simp only [List.cons_append, List.nil_append] at N'
  (try dsimp only); (try k_fold)
  k_steps
  refine Stop.of ?_
  rename Fr _ _ _ _ => F1; rename News _ _ _ _ => N1
  k_dflt (refine listComp_BT (F₀ := F1) (by rfl) (by decide) (by rfl) (by decide) (by rfl) ?_)
  k_steps
  refine src_bytesT (fun i ys => BytesAre ys (plainB (b.toList.take i))) rfl F1 N1 (by rw [sizeLine_eq]; omega) .nil ?_ ?_
  · clear F1 N1
    rintro i c u ys I oI C oC D m₂ h tk E' hc hJ hC hx F2 N2 off ne
    (try k_unmd); (try k_fold)
    by_cases hin : 48 ≤ (c.toNat : Int) ∧ (c.toNat : Int) ≤ 59
    · have hin1 := hin.1
      have hin2 := hin.2
      k_steps
      rename Fr g L' _ _ => F3; rename News g L' _ _ => N3
      refine end1 F3 N3 (fun q hq => .tail _ hq) ?_
      rw [plainB_in hc hin, byte_back]
      exact hJ.append (.cons _ _ .nil)
    · k_steps
      all_goals (
        rename Fr g L' _ _ => F3
        refine end1 F3 N2 (fun q hq => hq) ?_
        rw [plainB_out hc hin]
        exact hJ)
  · clear F1 N1
    rintro ys D h' tk' hJ F2 N2 o1
    rw [← Array.length_toList, List.take_length] at hJ
    have hp1 := plainB_len b
    k_steps
    refine Stop.of ?_
    refine call_join ⟨_, (N2 _ (.head _)).1, rfl, _, rfl⟩ hJ ?_ ?_ ?_
    · refine Nat.le_trans (sizes_le 1 _ _ (plainB_one _)) ?_
      rw [show (#[] : Array UInt8).size = 0 from rfl]; omega
    · refine Nat.le_trans (joined_size _ 1 _ (plainB_one _)) ?_
      rw [show 1 + (#[] : Array UInt8).size = 1 from rfl]; omega
    · intro t' k
      have ePl : PySem.Builtin.Bytes.joined #[] (plainB b.toList) = plainA b := rfl
      rw [ePl]
      have hPs : (plainA b).size ≤ b.size := by
        rw [← octs_len, ← octs_len, plainA_octs]; exact List.length_filter_le _ _
      generalize hP : plainA b = P at hPs ⊢
      k_steps
      · rename (P.toList == _) = true => hbe
        rename _ ∧ _ ∧ _ ∧ AllLt _ news => l5
        rename Fr h₀ L _ _ => kF; rename News h₀ L _ _ => kN
        have e : P.toList = [] := by simpa using hbe
        have e2 : lreadOf most limit (octs b) = [] := by
          unfold lreadOf
          rw [if_pos]
          rw [← plainA_octs, hP]
          unfold octs
          rw [e]; rfl
        exact ret _ [] 0 [] _ _ (by rw [e2]; exact .nil) kF (news_sub kN fun q hq => by
          rcases List.mem_cons.mp hq with rfl | hq
          · exact .head _
          · exact .tail _ (.tail _ (.tail _ (.tail _ hq)))) (fun p hp q hq => by
            rw [List.mem_singleton.mp hp]
            exact Nat.ne_of_gt (tb_ltOf (l5.2.2.2) q hq))
      · rename (P.toList == _) = false => hbe
        have e2 : lreadOf most limit (octs b) = ((splitL 59 (octs P)).take most.toNat).map fun one => ((splitL 58 one).take most.toNat).map (numberOf limit) := by
          unfold lreadOf
          rw [if_neg, ← plainA_octs, hP]
          rw [← plainA_octs, hP]
          intro e
          unfold octs at e
          rw [List.map_eq_nil_iff.mp e] at hbe
          cases hbe
        have hPin : ∀ c ∈ octs P, 48 ≤ c ∧ c ≤ 59 := by
          intro c hc
          rw [← hP, plainA_octs] at hc
          exact of_decide_eq_true (List.mem_filter.mp hc).2
        rw [e2] at ret
        clear hP ePl hp1 hJ e2
        refine Stop.of ?_
        rename Fr g L' _ _ => F1; rename News g L' _ _ => N1
        k_dflt (refine LCg.ListComp_U (F₀ := F1) (by rfl) (by decide) (by rfl) (by decide) (by rfl) ?_)
        k_steps
        refine Stop.of ?_
        have hpe := pieces_octs P 59
        have hpl := splitL_len (59 : Int) (octs P)
        refine call_split F1 (news_sub N1 fun q hq => .tail _ hq) (by omega) ?_
        clear F1 N1
        intro d vs h2 k2 hv F1 N1 l2
        have hvl := hv.length
        have hvl2 : vs.length = (splitL 59 (octs P)).length := by
          rw [hvl, ← List.length_map (f := octs), hpe]; rfl
        have hvl3 : vs.length ≤ 100 := by have := hpl.1; rw [octs_len] at this; omega
        k_steps
        refine Stop.of ?_
        rename Fr g L' _ _ => F1; rename News g L' _ _ => N1
        rw [pick_upto hm0] at N1
        obtain ⟨nw0, hnw0, N2⟩ : ∃ nw0, nw0 = _ ∧ News _ _ _ nw0 := ⟨_, rfl, N1⟩
        clear N1; rename News _ _ _ nw0 => N1
        obtain ⟨RR, hRR⟩ : ∃ RR, RR = ((splitL 59 (octs P)).take most.toNat).map fun one => ((splitL 58 one).take most.toNat).map (numberOf limit) := ⟨_, rfl⟩
        rw [← hRR] at ret
        refine src_ledger2 (vs := vs.take most.toNat) (k := 0) (news := nw0) (fun i ys nw => ∃ l9, (∀ q ∈ l9, q ∈ nw) ∧ (∀ q ∈ nw0, q ∈ nw) ∧ (∀ p ∈ l9, ∀ q ∈ news, @Ne Nat p.1 q.1) ∧ DatAll l9 ys ((RR.take i).map rowD)) rfl F1 N1 (by rw [hnw0]; exact .head _) ?_ ⟨[], fun q h => absurd h List.not_mem_nil, fun q h => h, fun q h => absurd h List.not_mem_nil, .nil⟩ ?_ ?_
        · rw [List.length_take, sizeLine_eq]; omega
        · clear F1 N1
          rintro i v zs nw I oI C oC D2 m₂ h tk E' hi ⟨l9, hl9, hn0, hfn, hJ⟩ hS hv2 hC hx F2 N2 off ne
          obtain ⟨b1, tb1, rfl, hb1⟩ := bytes_at hv hv2
          have hrow : RR[i]? = some (((splitL 58 (octs b1)).take most.toNat).map (numberOf limit)) := by
            rw [hRR, List.getElem?_map]
            have hb1' : ((splitL 59 (octs P)).take most.toNat)[i]? = some (octs b1) := hb1
            rw [hb1']; rfl
          have hb1m := List.mem_of_getElem? hb1
          have hb1in := splitL_mem (59 : Int) (octs P) (octs b1) (List.mem_of_mem_take hb1m)
          have hb1s : b1.size ≤ 99 := by
            have := hpl.2 _ (List.mem_of_mem_take hb1m)
            rw [octs_len, octs_len] at this; omega
          have N3 : News g L' h ((I, oI) :: (C, oC) :: (D2, LCg.lst zs) :: (L' + 1 + 1, oA) :: (L' + 1, oB) :: nw) := by
            have h1 := hn0 (L' + 1 + 1, oA) (by rw [hnw0]; exact .tail _ (.tail _ (.head _)))
            have h2 := hn0 (L' + 1, oB) (by rw [hnw0]; exact .tail _ (.tail _ (.tail _ (.head _))))
            exact news_dup N2 h1 h2
          clear N2
          (try k_unmd); (try k_fold)
          k_steps
          refine Stop.of ?_
          rename News g L' _ ((I, oI) :: _) => N4
          k_dflt (refine LCg.ListComp_U (F₀ := F2) (by rfl) (by decide) (by rfl) (by decide) (by rfl) ?_)
          k_steps
          refine Stop.of ?_
          have hpl2 := splitL_len (58 : Int) (octs b1)
          refine call_split F2 N4 (by omega) ?_
          clear F2 N4
          intro d2 us h3 k3 hu F2 N4 l4
          have hul : us.length = (splitL 58 (octs b1)).length := by
            rw [hu.length, ← List.length_map (f := octs), pieces_octs b1 58]; rfl
          have hul3 : us.length ≤ 100 := by have := hpl2.1; rw [octs_len] at this; omega
          k_steps
          refine Stop.of ?_
          rename Fr g L' _ _ => F5; rename News g L' _ _ => N5
          rw [pick_upto hm0] at N5
          obtain ⟨nw1, hnw1, N6⟩ : ∃ nw1, nw1 = _ ∧ News _ _ _ nw1 := ⟨_, rfl, N5⟩
          clear N5
          have hin1 : ∀ q ∈ (I, oI) :: (C, oC) :: (D2, LCg.lst zs) :: nw, q ∈ nw1 := by
            rw [hnw1]
            exact fun q hq => .tail _ (.tail _ (by
              rcases List.mem_cons.mp hq with rfl | hq
              · exact .head _
              · rcases List.mem_cons.mp hq with rfl | hq
                · exact .tail _ (.head _)
                · rcases List.mem_cons.mp hq with rfl | hq
                  · exact .tail _ (.tail _ (.head _))
                  · exact .tail _ (.tail _ (.tail _ (.tail _ (.tail _ hq))))))
          have hcA : (L' + 1 + 1, oA) ∈ nw1 := by rw [hnw1]; exact .tail _ (.tail _ (.tail _ (.tail _ (.tail _ (.head _)))))
          have hcB : (L' + 1, oB) ∈ nw1 := by rw [hnw1]; exact .tail _ (.tail _ (.tail _ (.tail _ (.tail _ (.tail _ (.head _))))))
          obtain ⟨xs, hxs⟩ : ∃ xs, xs = ((splitL 58 (octs b1)).take most.toNat).map (numberOf limit) := ⟨_, rfl⟩
          rw [← hxs] at hrow
          have hxl : (us.take most.toNat).length = xs.length := by rw [hxs, List.length_map, List.length_take, List.length_take, hul]
          refine src_ledger1 (vs := us.take most.toNat) (k := 0) (fun j ws => DatAll [] ws ((xs.take j).map vD)) rfl F5 N6 (by rw [hnw1]; exact .head _) ?_ .nil ?_ ?_
          · rw [List.length_take, sizeLine_eq]; omega
          · clear F5 N6 F2 N4
            rintro j v2 ws I2 oI2 C2 oC2 D3 m3 h4 tk4 E2 hj hJ2 hv3 hC2 hx2 F3 N6 off2 ne2
            obtain ⟨b2, tb2, rfl, hb2⟩ := bytes_at hu hv3
            have hb2m := List.mem_of_getElem? hb2
            have hb2in := splitL_mem (58 : Int) (octs b1) (octs b2) (List.mem_of_mem_take hb2m)
            have hb2s : b2.size ≤ 100 := by
              have := hpl2.2 _ (List.mem_of_mem_take hb2m)
              rw [octs_len, octs_len] at this; omega
            have hfig : ∀ c ∈ octs b2, 48 ≤ c ∧ c ≤ 57 := by
              intro c hc
              have h1 := hb2in c hc
              have h2 := hb1in c h1.1
              have h3 := hPin c h2.1
              have h4 := h1.2
              have h5 := h2.2
              omega
            have hcol : xs[j]? = some (numberOf limit (octs b2)) := by
              rw [hxs, List.getElem?_map]
              have hb2' : ((splitL 58 (octs b1)).take most.toNat)[j]? = some (octs b2) := hb2
              rw [hb2']; rfl
            have N7 := news_dup N6 hcA hcB
            clear N6
            (try k_unmd); (try k_fold)
            k_steps
            refine Stop.of ?_
            k_dflt (refine number_walk w B' F3 X' N7 T' rfl (by k_room) (by k_units) hfig hb2s hl0 hl1 ?_)
            clear F3 N7
            intro v3 h5 tk5 hD F3 N7
            k_steps
            refine end1 F3 N7 (fun q hq => by
              rcases List.mem_cons.mp hq with rfl | hq
              · exact .head _
              · rcases List.mem_cons.mp hq with rfl | hq
                · exact .tail _ (.head _)
                · rcases List.mem_cons.mp hq with rfl | hq
                  · exact .tail _ (.tail _ (.head _))
                  · exact .tail _ (.tail _ (.tail _ (.tail _ (.tail _ hq))))) ?_
            rw [List.take_add_one, hcol, List.map_append]
            exact hJ2.append (.cons hD .nil)
          · clear F5 N6 F2 N4
            rintro ws D3 h4 tk4 hJ2 F3 N7 o3
            rw [hxl, List.take_length] at hJ2
            have o4 := off1_mem o3
            have hoI := o4 _ (hin1 _ (.head _))
            have hoC := o4 _ (hin1 _ (.tail _ (.head _)))
            have hoD := o4 _ (hin1 _ (.tail _ (.tail _ (.head _))))
            dsimp only at hoI hoC hoD
            k_steps
            refine end2 [(D3, W.listOf ws.toArray ws.length)] F3 N7 ?_ off ?_ ?_ ?_
            · intro q hq
              rcases List.mem_cons.mp hq with rfl | hq
              · exact .tail _ (hin1 _ (.head _))
              · rcases List.mem_cons.mp hq with rfl | hq
                · exact .tail _ (hin1 _ (.tail _ (.head _)))
                · rcases List.mem_cons.mp hq with rfl | hq
                  · exact .tail _ (hin1 _ (.tail _ (.tail _ (.head _))))
                  · rcases List.mem_cons.mp hq with rfl | hq
                    · exact .head _
                    · exact .tail _ (hin1 _ (.tail _ (.tail _ (.tail _ hq))))
            · intro q hq
              rw [List.mem_singleton.mp hq]
              exact ⟨Ne.symm hoI, Ne.symm hoC, Ne.symm hoD⟩
            · rcases hS with h0 | ⟨o, hm, r⟩
              · exact .inl h0
              · exact .inr ⟨o, .tail _ hm, r⟩
            · refine ⟨(D3, W.listOf ws.toArray ws.length) :: l9, ?_, fun q hq => .tail _ (hn0 q hq), ?_, ?_⟩
              · intro q hq
                rcases List.mem_cons.mp hq with rfl | hq
                · exact .head _
                · exact .tail _ (hl9 q hq)
              · intro p hp q hq
                rcases List.mem_cons.mp hp with rfl | hp
                · have hq0 : q ∈ nw0 := by rw [hnw0]; exact .tail _ (.tail _ (.tail _ (.tail _ hq)))
                  have hq1 := o4 q (hin1 q (.tail _ (.tail _ (.tail _ (hn0 q hq0)))))
                  exact Ne.symm hq1
                · exact hfn p hp q hq
              · rw [List.take_add_one, hrow, List.map_append]
                exact (hJ.mono fun q hq => .tail _ hq).append (.cons (row_dat (.head _) hJ2) .nil)
        · clear F1 N1
          rintro ys D2 h2 tk2 nw ⟨l9, hl9, hn0, hfn, hJ⟩ F2 N2 o2
          have hRl : (vs.take most.toNat).length = RR.length := by rw [hRR, List.length_map, List.length_take, List.length_take, hvl2]
          rw [hRl, List.take_length] at hJ
          k_steps
          rename Fr h₀ L _ _ => kF; rename News h₀ L _ _ => kN
          have o5 := off1_mem o2
          refine ret _ ys ys.length l9 _ _ hJ kF (news_sub kN fun q hq => ?_) (fun p hp q hq => ?_)
          rotate_left
          · rcases List.mem_cons.mp hp with rfl | hp
            · have hq0 : q ∈ nw0 := by rw [hnw0]; exact .tail _ (.tail _ (.tail _ (.tail _ hq)))
              have hq1 := o5 q (hn0 q hq0)
              exact Ne.symm hq1
            · exact hfn p hp q hq
          rcases List.mem_cons.mp hq with rfl | hq
          · exact .head _
          · rcases List.mem_append.mp hq with hq | hq
            · exact .tail _ (hl9 q hq)
            · refine .tail _ (hn0 q ?_)
              rw [hnw0]
              exact .tail _ (.tail _ (.tail _ (.tail _ hq)))
end
end
section
def partT : Option Int → Str
  | none => Str.ofString ""
  | some i => Str.ofString (toString i)
def rowT (row : List (Option Int)) : Str := Str.join (Str.ofString ":") (row.map partT)
def rowsT (rows : List (List (Option Int))) : Str := Str.join (Str.ofString ";") (rows.map rowT)
theorem partT_len {x : Option Int} (h : ∀ i, x = some i → 0 ≤ i ∧ i < 100000) : (partT x).length ≤ 6 := by
  cases x with
  | none => decide
  | some i =>
    obtain ⟨h0, h1⟩ := h i rfl
    have h5 : i < 10 ^ 5 := by
      rw [show (10 : Int) ^ 5 = 100000 from rfl]; exact h1
    exact Nat.le_trans (toString_length_le h0 (by decide : 0 < 5) h5) (by decide)
theorem sumLen_le (M : Nat) (l : List Str) (h : ∀ x ∈ l, x.length ≤ M) : (l.map (·.length)).sum ≤ l.length * M := by
  have := sum_le M (l.map (·.length)) (by
    intro y hy
    obtain ⟨x, hx, rfl⟩ := List.mem_map.mp hy
    exact h x hx)
  rwa [List.length_map] at this
theorem partTs_len {row : List (Option Int)} (h : ∀ i, some i ∈ row → 0 ≤ i ∧ i < 100000) : ∀ x ∈ row.map partT, x.length ≤ 6 := by
  intro x hx
  obtain ⟨y, hy, rfl⟩ := List.mem_map.mp hx
  exact partT_len fun i e => h i (e ▸ hy)
theorem rowT_len {row : List (Option Int)} (hl : row.length ≤ 100) (h : ∀ i, some i ∈ row → 0 ≤ i ∧ i < 100000) : (rowT row).length ≤ 700 := by
  have h1 := StrLaws.join_length_le (Str.ofString ":") (row.map partT)
  have h2 := sumLen_le 6 _ (partTs_len h)
  rw [List.length_map] at h1 h2
  rw [show (Str.ofString ":").length = 1 from rfl] at h1
  unfold rowT
  omega
theorem rowTs_len {rows : List (List (Option Int))} (hok : RowsOk rows) : ∀ x ∈ rows.map rowT, x.length ≤ 700 := by
  intro x hx
  obtain ⟨y, hy, rfl⟩ := List.mem_map.mp hx
  exact rowT_len (hok.2 y hy).1 (hok.2 y hy).2
theorem rowsT_len {rows : List (List (Option Int))} (hok : RowsOk rows) : (rowsT rows).length ≤ 80000 := by
  have h1 := StrLaws.join_length_le (Str.ofString ";") (rows.map rowT)
  have h2 := sumLen_le 700 _ (rowTs_len hok)
  have h3 := hok.1
  rw [List.length_map] at h1 h2
  rw [show (Str.ofString ";").length = 1 from rfl] at h1
  unfold rowsT
  omega
/-! the text of the law, the octets of the project -/
def strI (x : Str) : List Int := x.cps.toList.map fun (n : Nat) => (n : Int)
def joinG {α : Type} (sep : List α) : List (List α) → List α
  | [] => []
  | [x] => x
  | x :: y :: r => x ++ sep ++ joinG sep (y :: r)
theorem joinG_eq (sep : List UInt8) : ∀ l, joinL sep l = joinG sep l
  | [] => rfl
  | [_] => rfl
  | x :: y :: r => by rw [joinL, joinG, joinG_eq sep (y :: r)]
theorem joinG_map {α β : Type} (f : α → β) (sep : List α) : ∀ l, (joinG sep l).map f = joinG (sep.map f) (l.map (·.map f))
  | [] => rfl
  | [_] => rfl
  | x :: y :: r => by
    rw [joinG, List.map_append, List.map_append, joinG_map f sep (y :: r)]
    rfl
theorem joinG_mem {α : Type} (sep : List α) : ∀ (l : List (List α)) (x : α), x ∈ joinG sep l → x ∈ sep ∨ ∃ p ∈ l, x ∈ p
  | [], x, h => by cases h
  | [p], x, h => .inr ⟨p, .head _, h⟩
  | p :: q :: r, x, h => by
    rw [joinG] at h
    rcases List.mem_append.mp h with h | h
    · rcases List.mem_append.mp h with h | h
      · exact .inr ⟨p, .head _, h⟩
      · exact .inl h
    · rcases joinG_mem sep (q :: r) x h with h | ⟨p', hp, hx⟩
      · exact .inl h
      · exact .inr ⟨p', .tail _ hp, hx⟩
theorem strI_app (x y : Str) : strI (x ++ y) = strI x ++ strI y := by
  have e : (x ++ y).cps = x.cps ++ y.cps := rfl
  unfold strI
  rw [e, Array.toList_append, List.map_append]
theorem strI_join (sep : Str) : ∀ l : List Str, strI (Str.join sep l) = joinG (strI sep) (l.map strI)
  | [] => rfl
  | [_] => rfl
  | x :: y :: r => by
    rw [Str.join, strI_app, strI_app, strI_join sep (y :: r)]
    · rfl
    · intro h; cases h
theorem octs_joined (sep : Array UInt8) (bs : List (Array UInt8)) : octs (PySem.Builtin.Bytes.joined sep bs) = joinG (octs sep) (bs.map octs) := by
  unfold octs
  rw [joined_list, joinG_eq, joinG_map, List.map_map]
  rfl
theorem digit_nat : ∀ n : Nat, n < 10 → (n.digitChar.toNat : Int) = 48 + (n : Int) := by decide
theorem digits_dec (n : Nat) : (Nat.toDigits 10 n).map (fun c => (c.toNat : Int)) = decL n := by
  induction n using Nat.strongRecOn with
  | _ n ih =>
    rw [Nat.toDigits_eq_if (by decide)]
    by_cases h : n < 10
    · rw [if_pos h]
      unfold decL
      have e : n / 10 = 0 := by omega
      rw [e, lsd, dif_pos rfl, Nat.mod_eq_of_lt h]
      show [(n.digitChar.toNat : Int)] = [48 + (n : Int)]
      rw [digit_nat n h]
    · rw [if_neg h, List.map_append, ih (n / 10) (by omega)]
      unfold decL
      have hne : n / 10 ≠ 0 := by omega
      rw [List.reverse_cons (a := (48 + ((n % 10 : Nat) : Int)))]
      have el : lsd (n / 10) = (48 + ((n / 10 % 10 : Nat) : Int)) :: lsd (n / 10 / 10) := by rw [lsd, dif_neg hne]
      rw [el]
      congr 1
      show [((n % 10).digitChar.toNat : Int)] = _
      rw [digit_nat _ (Nat.mod_lt _ (by decide))]
theorem partT_octs {x : Option Int} (h : ∀ i, x = some i → 0 ≤ i ∧ i < 100000) : strI (partT x) = octs (partB x) := by
  cases x with
  | none => rfl
  | some i =>
    obtain ⟨h0, _⟩ := h i rfl
    obtain ⟨n, rfl⟩ := Int.eq_ofNat_of_zero_le h0
    show strI (Str.ofString (toString (n : Int))) = octs (((decL (n : Int).toNat).map fun n => n.toNat.toUInt8).toArray)
    unfold strI octs
    rw [Str.ofString_eq_toList]
    have e : (toString (n : Int)).toList = Nat.toDigits 10 n := by
      show (Int.repr (Int.ofNat n)).toList = _
      show (Nat.repr n).toList = _
      rw [Nat.repr_eq_ofList_toDigits, String.toList_ofList]
    rw [e, Int.toNat_natCast]
    show (List.map Char.toNat (Nat.toDigits 10 n)).map (fun (n : Nat) => (n : Int)) = (List.map (fun n : Int => n.toNat.toUInt8) (decL n)).map fun c => (c.toNat : Int)
    rw [List.map_map, List.map_map]
    have e2 : (Nat.toDigits 10 n).map ((fun (n : Nat) => (n : Int)) ∘ Char.toNat) = decL n := digits_dec n
    rw [e2]
    have : ∀ l : List Int, (∀ x ∈ l, 48 ≤ x ∧ x ≤ 57) → l.map ((fun c : UInt8 => (c.toNat : Int)) ∘ fun n : Int => n.toNat.toUInt8) = l := by
      intro l hl
      induction l with
      | nil => rfl
      | cons x l ih =>
        rw [List.map_cons, ih fun y hy => hl y (.tail _ hy)]
        congr 1
        have hx := hl x (.head _)
        show ((x.toNat.toUInt8).toNat : Int) = x
        have : (x.toNat.toUInt8).toNat = x.toNat % 256 := by simp
        rw [this]; omega
    exact (this _ (decL_in n)).symm
theorem rowT_octs {row : List (Option Int)} (h : ∀ i, some i ∈ row → 0 ≤ i ∧ i < 100000) : strI (rowT row) = octs (rowB row) := by
  unfold rowT rowB
  rw [strI_join, octs_joined, List.map_map, List.map_map]
  congr 1
  refine List.map_congr_left fun x hx => ?_
  exact partT_octs fun i e => h i (e ▸ hx)
theorem rowsT_octs {rows : List (List (Option Int))} (hok : RowsOk rows) : strI (rowsT rows) = octs (rowsB rows) := by
  unfold rowsT rowsB
  rw [strI_join, octs_joined, List.map_map, List.map_map]
  congr 1
  refine List.map_congr_left fun row hr => ?_
  exact rowT_octs (hok.2 row hr).2
theorem partB_in {x : Option Int} : ∀ c ∈ octs (partB x), 48 ≤ c ∧ c ≤ 57 := by
  intro c hc
  cases x with
  | none => cases hc
  | some i =>
    unfold octs partB at hc
    obtain ⟨u, hu, rfl⟩ := List.mem_map.mp hc
    obtain ⟨n, hn, rfl⟩ := List.mem_map.mp hu
    have := decL_in _ n hn
    have e : (n.toNat.toUInt8).toNat = n.toNat % 256 := by simp
    rw [e]; omega
theorem rowB_in {row : List (Option Int)} : ∀ c ∈ octs (rowB row), 48 ≤ c ∧ c ≤ 58 := by
  intro c hc
  unfold rowB at hc
  rw [octs_joined] at hc
  rcases joinG_mem _ _ _ hc with h | ⟨p, hp, hx⟩
  · have : c = 58 := by simpa [octs] using h
    omega
  · obtain ⟨q, hq, rfl⟩ := List.mem_map.mp hp
    obtain ⟨x, _, rfl⟩ := List.mem_map.mp hq
    have := partB_in c hx
    omega
theorem rowsB_in {rows : List (List (Option Int))} : ∀ c ∈ octs (rowsB rows), 48 ≤ c ∧ c ≤ 59 := by
  intro c hc
  unfold rowsB at hc
  rw [octs_joined] at hc
  rcases joinG_mem _ _ _ hc with h | ⟨p, hp, hx⟩
  · have : c = 59 := by simpa [octs] using h
    omega
  · obtain ⟨q, hq, rfl⟩ := List.mem_map.mp hp
    obtain ⟨x, _, rfl⟩ := List.mem_map.mp hq
    have := rowB_in c hx
    omega
end
section
theorem octs_back (b : Array UInt8) : ((octs b).map fun n => n.toNat.toUInt8).toArray = b := by
  unfold octs
  rw [List.map_map]
  have : b.toList.map ((fun n : Int => n.toNat.toUInt8) ∘ fun c : UInt8 => (c.toNat : Int)) = b.toList := by
    have e : ((fun n : Int => n.toNat.toUInt8) ∘ fun c : UInt8 => (c.toNat : Int)) = id := by
      funext c; simp
    rw [e, List.map_id]
  rw [this]
section
theorem written_walk {r : Addr} {vs : List Value} {nr : Nat} {news l9 : List (Addr × Obj)} {rows : List (List (Option Int))}
   (B : Below A₀ base outer h₀) (F : Fr h₀ L s.heap m) (X : (Mine.hd.heap_39 w.params).In h₀) (N : News h₀ L s.heap news)
   (T : Top Mine.hd.view_39 loose mean mg mb h₀) (hk : cs.kind = .function) (hdp : dp + 30 < recursionLimit) (hun : un + 400 < cLine)
   (hr : (r, listOf vs.toArray nr) ∈ news) (hD : DatAll l9 vs (rows.map rowD)) (hs : ∀ p ∈ l9, p ∈ news) (hok : RowsOk rows)
   (ret : ∀ t h' tk', Fr h₀ L h' m → News h₀ L h' news → Q (.bytes (rowsB rows) t) { s with heap := h', toks := tk' }) :
   wpAny (model PySem.Challenge.rw_np0269_01.row.prog w) (ktrTop dp un gd cn cs L a ccd cl outer) (call (.ref 145) [.ref r]) Q E s := by
  w_top off
  revert X; k_fill; intro X
  refine wpAny_call ?_
  have st12 : Stops 12 := .mk
  have st3 : Stops 3 := .mk
  have st10 : Stops 10 := .mk
  have st4 : Stops 4 := .mk
  k_dflt (refine code_def (binds := [(Str.ofString "rows", .ref r)]) B F X N T rfl rfl hk (by k_is) (by k_is) (by k_room) (BindsTo.of_eq rfl) (locs rfl) ?_ rfl rfl rfl (by decide))
  intro g L' h₁ FG F' N' B' X' T'
  (try dsimp only); (try k_fold)
  k_steps
  refine Stop.of ?_
  rename Fr g L' _ _ => F1; rename News g L' _ _ => N1; rename ∀ p ∈ news, p.1 < _ => l1
  rename_i tA hA hB
  obtain ⟨m0, hme, F2⟩ : ∃ m0, m0 = _ ∧ Fr g L' _ m0 := ⟨_, rfl, F1⟩
  clear F1
  have hvl := hD.length
  rw [List.length_map] at hvl
  k_dflt (refine For_invV g (by rfl) (by rfl) ?_)
  rw [hme] at F2
  k_steps
  refine Stop.of ?_
  rw [← hme] at F2
  refine list_J (k := nr) (vs := vs) (fun i m₁ nx => (∀ y, y ≠ Str.ofString "row" → m₁ y = m0 y) ∧ ∃ ts n, nx = (tA, W.listOf ts.toArray n) :: news ∧ StrsAre ts ((rows.take i).map rowT)) rfl F2 N1 (.tail _ hr) ⟨fun _ _ => rfl, [], 0, rfl, .nil⟩ ?_ ?_ ?_
  · rintro i m₁ nx ⟨_, ts, n, rfl, _⟩
    exact .tail _ hr
  · clear F2 N1
    rintro i v m₁ nx h tk I it hv hI ⟨hm, ts, n, rfl, hS⟩ F1 N1
    rw [map_over hm, hme] at F1
    have hiv : i < vs.length := (List.getElem?_eq_some_iff.mp hv).1
    have hir : i < (rows.map rowD).length := by rw [List.length_map]; omega
    obtain ⟨v', hv', hvD⟩ := hD.get hir
    rw [hv] at hv'
    obtain rfl := Option.some.inj hv'
    rw [List.getElem_map] at hvD
    obtain ⟨a1, us, n1, rfl, hm1, hu⟩ := row_in hvD
    have hm1' := hs _ hm1
    have hul := hu.length
    rw [List.length_map] at hul
    have hrow := hok.2 rows[i] (List.getElem_mem _)
    have htI : @Ne Nat tA I := hI _ (.head _)
    have hnI : ∀ p ∈ news, @Ne Nat p.1 I := fun p hp => hI p (.tail _ hp)
    have hsl := hS.length
    rw [List.length_map, List.length_take] at hsl
    have htl : ts.length ≤ 100 := by have := hok.1; omega
    obtain ⟨row, hrw⟩ : ∃ row, row = rows[i] := ⟨_, rfl⟩
    rw [← hrw] at hu hrow hul
    simp only [List.cons_append] at N1
    have hnt : ∀ p ∈ news, @Ne Nat p.1 tA := fun p hp => Nat.ne_of_lt (l1 p hp)
    obtain ⟨gr, hgr, N2⟩ : ∃ gr, gr = news ++ [(I, it)] ∧ News g L' h ((tA, W.listOf ts.toArray n) :: gr) := ⟨_, rfl, N1⟩
    have hgt : ∀ p ∈ gr, p.1 ≠ tA := by
      rw [hgr]
      intro p hp
      rcases List.mem_append.mp hp with hp | hp
      · exact hnt p hp
      · rw [List.mem_singleton.mp hp]; exact Ne.symm htI
    clear N1
    (try k_unmd); (try k_fold)
    k_steps
    refine Stop.of ?_
    k_dflt (refine LCg.ListComp_U (F₀ := F1) (by rfl) (by decide) (by rfl) (by decide) (by rfl) ?_)
    k_steps
    refine Stop.of ?_
    refine src_ledger1 (vs := us) (k := n1) (fun j ws => StrsAre ws ((row.take j).map partT)) rfl F1 N2 (by rw [hgr]; exact .tail _ (List.mem_append.mpr (.inl hm1'))) ?_ .nil ?_ ?_
    · rw [sizeLine_eq]; omega
    · clear F1 N2
      rintro j v2 ws I2 oI2 C2 oC2 D3 m3 h4 tk4 E2 hj hJ2 hv3 hC2 hx2 F3 N6 off2 ne2
      have hjr : j < (row.map vD).length := by rw [List.length_map]; omega
      obtain ⟨v3, hv4, hvD3⟩ := hu.get hjr
      rw [hv3] at hv4
      obtain rfl := Option.some.inj hv4
      rw [List.getElem_map] at hvD3
      have hjl : j < row.length := by omega
      have hxj : row[j]? = some row[j] := List.getElem?_eq_getElem hjl
      cases hxr : row[j] with
      | none =>
        rw [hxr] at hvD3
        have := v_none hvD3
        subst this
        (try k_unmd); (try k_fold)
        k_steps
        rename Fr g L' _ _ => F4
        refine end1 F4 N6 (fun q hq => hq) ?_
        rw [List.take_add_one, hxj, hxr, List.map_append]
        exact kct_snoc hJ2
      | some z =>
        rw [hxr] at hvD3
        obtain ⟨tz, rfl⟩ := v_some hvD3
        have hz := hrow.2 z (by rw [← hxr]; exact List.getElem_mem _)
        have hz0 := hz.1
        have hz1 := hz.2
        (try k_unmd); (try k_fold)
        k_steps
        rename Fr g L' _ _ => F4
        refine end1 F4 N6 (fun q hq => hq) ?_
        rw [List.take_add_one, hxj, hxr, List.map_append]
        exact kct_snoc hJ2
    · clear F1 N2
      rintro ws D3 h4 tk4 hJ2 F3 N3 o3
      rw [hul, List.take_length] at hJ2
      have hwl := hJ2.length
      rw [List.length_map] at hwl
      have o4 := off1_mem o3
      have hoT := o4 _ (.head _)
      dsimp only at hoT
      k_steps
      refine join_list (items := ws.toArray) ⟨_, (N3 _ (.head _)).1, rfl, _, rfl⟩ hJ2 ?_ ?_
      · have h2 := sumLen_le 6 _ (partTs_len hrow.2)
        rw [List.length_map] at h2 ⊢
        rw [show (Str.ofString ":").length = 1 from rfl]
        omega
      · intro t' k'
        have ej : Txt.join (Str.ofString ":") (row.map partT) = rowT row := StrLaws.glued_eq_join _ _
        rw [ej]
        have hoT' : @Ne Nat D3 tA := Ne.symm hoT
        have hD3 : ∀ p ∈ (D3, W.listOf ws.toArray ws.length) :: gr, @Ne Nat p.1 tA := by
          intro p hp
          rcases List.mem_cons.mp hp with rfl | hp
          · exact hoT'
          · exact hgt p hp
        generalize hrt : rowT row = rt
        k_steps
        rename Fr g L' _ _ => F4; rename News g L' _ _ => N4
        have hri : rows[i]? = some row := by rw [hrw]; exact List.getElem?_eq_getElem _
        rw [List.push_toArray] at N4
        refine lend ((tA, W.listOf (ts ++ [Value.str rt t']).toArray (n + 1)) :: news) F4 N4 (fun q hq => ?_) (fun q hq b hb => ?_) ⟨fun y hy => ?_, _, _, rfl, ?_⟩
        · rw [hgr]; exact .tail _ hq
        · rw [List.mem_singleton.mp hq]
          rcases List.mem_cons.mp hb with rfl | hb
          · exact Ne.symm htI
          · obtain ⟨p, hp, rfl⟩ := List.mem_map.mp hb
            exact Ne.symm (hnI p hp)
        · rw [hme]; simp [hy]
        · rw [List.take_add_one, hri, List.map_append]
          show StrsAre _ (_ ++ [rowT row])
          rw [hrt]
          exact kct_snoc hS
  · clear F2 N1
    rintro m₁ nw h tk ⟨hm, ts, n, rfl, hS⟩ F1 N1
    rw [← map_done hm, hme] at F1
    rw [hvl, List.take_length] at hS
    have hsl := hS.length
    rw [List.length_map] at hsl
    (try k_unmd); (try k_fold)
    k_steps
    refine Stop.of ?_
    k_dflt (refine listComp_S (F₀ := F1) (by rfl) (by decide) (by rfl) (by decide) (by rfl) ?_)
    k_steps
    refine join_list (items := ts.toArray) ⟨_, (N1 _ (.head _)).1, rfl, _, rfl⟩ hS ?_ ?_
    · have h2 := sumLen_le 700 _ (rowTs_len hok)
      have h3 := hok.1
      rw [List.length_map] at h2 ⊢
      rw [show (Str.ofString ";").length = 1 from rfl]
      omega
    · intro t' k'
      have ej : Txt.join (Str.ofString ";") (rows.map rowT) = rowsT rows := StrLaws.glued_eq_join _ _
      rw [ej]
      have hRl := rowsT_len hok
      have hoc := rowsT_octs hok
      have hin : ∀ c ∈ strI (rowsT rows), 48 ≤ c ∧ c ≤ 59 := by rw [hoc]; exact rowsB_in
      generalize hRT : rowsT rows = RT at hRl hoc hin ⊢
      have hall : RT.cps.all (· < 128) = true := by
        rw [Array.all_eq_true']
        intro c hc
        have := hin (c : Int) (List.mem_map.mpr ⟨c, by simpa using hc, rfl⟩)
        exact decide_eq_true (by omega)
      have hRl' : RT.cps.size ≤ 80000 := hRl
      k_steps
      refine src_str (fun i ys => IntsAre ys ((strI RT).take i)) rfl F1 N1 (by rw [sizeLine_eq]; omega) hall .nil ?_ ?_
      · clear F1 N1
        rintro i c u ys I oI C oC D m₂ h tk E' hc hJ hC hx F2 N2 off ne
        have hsi : (strI RT)[i]? = some (c : Int) := by
          unfold strI
          rw [List.getElem?_map]
          have : RT.cps.toList[i]? = some c := by simpa using hc
          rw [this]; rfl
        have hci := hin _ (List.mem_of_getElem? hsi)
        (try k_unmd); (try k_fold)
        k_steps
        rename Fr g L' _ _ => F4
        refine end1 F4 N2 (fun q hq => hq) ?_
        rw [List.take_add_one, hsi]
        exact hJ.append (.cons _ _ .nil)
      · clear F1 N1
        rintro ys D h' tk' hJ F2 N2 o1
        have hsz : (strI RT).length = RT.cps.size := by unfold strI; rw [List.length_map, Array.length_toList]
        rw [← hsz, List.take_length] at hJ
        have hyl := hJ.length
        k_steps
        refine bytes_K F2 N2 ⟨_, (N2 _ (.head _)).1, rfl, _, rfl⟩ hJ (fun x hx => by have := hin x hx; omega) ?_ rfl ?_
        · rw [sizeLine_eq]; omega
        · intro h4 t4 k4 F4 N4 _
          rw [hoc, octs_back]
          k_steps
          rename Fr h₀ L _ _ => kF; rename News h₀ L _ _ => kN
          exact ret _ _ _ kF (news_sub kN fun p hp => .tail _ (.tail _ hp))
end
end
section
theorem split_snoc {α : Type} [DecidableEq α] (c x : α) : ∀ (l : List α) (A : List (List α)) (b : List α), splitL c l = A ++ [b] →
    splitL c (l ++ [x]) = if x = c then (A ++ [b]) ++ [[]] else A ++ [b ++ [x]]
  | [], A, b, h => by
    have hA : A = [] ∧ b = [] := by
      cases A with
      | nil => simpa [splitL] using h.symm
      | cons a A =>
        have := congrArg List.length h
        simp [splitL] at this
    rw [hA.1, hA.2]
    show splitL c [x] = _
    rw [splitL]
    split
    · rfl
    · rfl
  | y :: l, A, b, h => by
    rw [List.cons_append, splitL]
    rw [splitL] at h
    by_cases e : y = c
    · rw [if_pos e] at h ⊢
      cases A with
      | nil =>
        have h2 : splitL c l = [] := by
          have := congrArg List.tail h
          simpa using this
        exact absurd h2 (splitL_ne c l)
      | cons a A =>
        obtain ⟨h1, h2⟩ := List.cons.inj h
        have ih := split_snoc c x l A b h2
        rw [ih, ← h1]
        split <;> rfl
    · rw [if_neg e] at h ⊢
      cases hs : splitL c l with
      | nil => exact absurd hs (splitL_ne c l)
      | cons p r =>
        rw [hs] at h
        dsimp only at h
        cases A with
        | nil =>
          obtain ⟨h1, h2⟩ := List.cons.inj h
          have ih := split_snoc c x l [] p (by rw [hs, h2]; rfl)
          rw [ih, ← h1]
          by_cases hxc : x = c
          · rw [if_pos hxc, if_pos hxc]; rfl
          · rw [if_neg hxc, if_neg hxc]; rfl
        | cons a A =>
          obtain ⟨h1, h2⟩ := List.cons.inj h
          have ih := split_snoc c x l (p :: A) b (by rw [hs, h2]; rfl)
          rw [ih, ← h1]
          by_cases hxc : x = c
          · rw [if_pos hxc, if_pos hxc]; rfl
          · rw [if_neg hxc, if_neg hxc]; rfl
theorem take_cap {α : Type} (l : List α) (x : α) (m : Nat) : (l ++ [x]).take m = if l.length < m then l ++ [x] else l.take m := by
  by_cases h : l.length < m
  · rw [if_pos h, List.take_of_length_le (by rw [List.length_append]; show l.length + 1 ≤ m; omega)]
  · rw [if_neg h, List.take_append_of_le_length (by omega)]
theorem cap_step {α β : Type} (f : α → β) (l : List α) (x : α) {m : Nat} {most : Int} (hm : most = (m : Int)) {s : List β} (hs : s = (l.take m).map f) :
    (if (s.length : Int) < most then s ++ [f x] else s) = ((l ++ [x]).take m).map f := by
  subst hs
  rw [take_cap, List.length_map, List.length_take]
  by_cases h : l.length < m
  · rw [if_pos (by omega), if_pos h, List.take_of_length_le (by omega), List.map_append]; rfl
  · rw [if_neg (by omega), if_neg h]
def rowOf (m : Nat) (limit : Int) (one : List Int) : List (Option Int) := ((splitL 58 one).take m).map (numberOf limit)
theorem plainL_snoc (l : List Int) (x : Int) : plainL (l ++ [x]) = if 48 ≤ x ∧ x ≤ 59 then plainL l ++ [x] else plainL l := by
  unfold plainL
  rw [List.filter_append]
  by_cases h : 48 ≤ x ∧ x ≤ 59
  · rw [if_pos h]; simp [h]
  · rw [if_neg h]
    have : [x].filter (fun c => decide (48 ≤ c ∧ c ≤ 59)) = [] := by
      rw [List.filter_eq_nil_iff]
      intro a ha
      rw [List.mem_singleton.mp ha]
      simpa using h
    rw [this, List.append_nil]
def Inv (m : Nat) (limit : Int) (l : List Int) (s : St) : Prop :=
  ∃ A b B d, splitL 59 (plainL l) = A ++ [b] ∧ splitL 58 b = B ++ [d] ∧ s.found = (A.take m).map (rowOf m limit) ∧ s.parts = (B.take m).map (numberOf limit) ∧ s.value = numberOf limit d ∧ s.begun = decide (plainL l ≠ []) ∧ 0 ≤ decV d
theorem num_snoc {limit : Int} (hl : 0 ≤ limit) {d : List Int} {x : Int} (h0 : 0 ≤ decV d) (hx : 48 ≤ x ∧ x ≤ 57) : numberOf limit (d ++ [x]) = some (min limit ((numberOf limit d).getD 0 * 10 + x - 48)) := by
  unfold numberOf
  rw [if_neg (by simp), decV_snoc]
  congr 1
  by_cases h : d = []
  · rw [if_pos h, h]
    show min limit (10 * 0 + x - 48) = min limit (0 * 10 + x - 48)
    rfl
  · rw [if_neg h]
    show min limit (10 * decV d + x - 48) = min limit (min limit (decV d) * 10 + x - 48)
    omega
theorem inv_step {most limit : Int} {m : Nat} (hm : most = (m : Int)) (hl : 0 ≤ limit) {l : List Int} {s : St} (x : Int) (h : Inv m limit l s) : Inv m limit (l ++ [x]) (putS most limit s x) := by
  obtain ⟨A, b, B, d, h1, h2, h3, h4, h5, h6, h7⟩ := h
  unfold putS
  by_cases hf : 48 ≤ x ∧ x ≤ 57
  · rw [if_pos hf]
    have hp : plainL (l ++ [x]) = plainL l ++ [x] := by rw [plainL_snoc, if_pos (by omega)]
    have e1 := split_snoc (59 : Int) x _ A b h1
    rw [if_neg (by omega)] at e1
    have e2 := split_snoc (58 : Int) x _ B d h2
    rw [if_neg (by omega)] at e2
    refine ⟨A, b ++ [x], B, d ++ [x], by rw [hp, e1], e2, h3, h4, ?_, ?_, ?_⟩
    · rw [num_snoc hl h7 hf, ← h5]; rfl
    · rw [hp]; simp
    · rw [decV_snoc]; omega
  · rw [if_neg hf]
    by_cases h58 : x = 58
    · rw [if_pos h58]
      have hp : plainL (l ++ [x]) = plainL l ++ [x] := by rw [plainL_snoc, if_pos (by omega)]
      have e1 := split_snoc (59 : Int) x _ A b h1
      rw [if_neg (by omega)] at e1
      have e2 := split_snoc (58 : Int) x _ B d h2
      rw [if_pos h58] at e2
      refine ⟨A, b ++ [x], B ++ [d], [], by rw [hp, e1], e2, h3, ?_, rfl, ?_, Int.le_refl 0⟩
      · show (if (s.parts.length : Int) < most then s.parts ++ [s.value] else s.parts) = _
        rw [h5]; exact cap_step _ _ _ hm h4
      · rw [hp]; simp
    · rw [if_neg h58]
      by_cases h59 : x = 59
      · rw [if_pos h59]
        have hp : plainL (l ++ [x]) = plainL l ++ [x] := by rw [plainL_snoc, if_pos (by omega)]
        have e1 := split_snoc (59 : Int) x _ A b h1
        rw [if_pos h59] at e1
        have hpp : (closePart most s).parts = rowOf m limit b := by
          show (if (s.parts.length : Int) < most then s.parts ++ [s.value] else s.parts) = _
          rw [h5]
          unfold rowOf
          rw [h2]; exact cap_step _ _ _ hm h4
        refine ⟨A ++ [b], [], [], [], by rw [hp, e1], rfl, ?_, by rw [List.take_nil]; rfl, rfl, ?_, Int.le_refl 0⟩
        · show (if (s.found.length : Int) < most then s.found ++ [(closePart most s).parts] else s.found) = _
          rw [hpp]; exact cap_step _ _ _ hm h3
        · rw [hp]; simp
      · rw [if_neg h59]
        have hp : plainL (l ++ [x]) = plainL l := by rw [plainL_snoc, if_neg (by omega)]
        exact ⟨A, b, B, d, by rw [hp, h1], h2, h3, h4, h5, by rw [hp]; exact h6, h7⟩
theorem inv_run {most limit : Int} {m : Nat} (hm : most = (m : Int)) (hl : 0 ≤ limit) : ∀ (l' l : List Int) (s : St), Inv m limit l s → Inv m limit (l ++ l') (runS most limit l' s)
  | [], l, s, h => by rw [List.append_nil]; exact h
  | x :: l', l, s, h => by
    have := inv_run hm hl l' (l ++ [x]) _ (inv_step hm hl x h)
    rw [List.append_assoc] at this
    exact this
theorem read_eq {most limit : Int} (h0 : 0 ≤ most) (hl : 0 ≤ limit) (l : List Int) : paramsS most (runS most limit l st0) = lreadOf most limit l := by
  have hm : most = (most.toNat : Int) := (Int.toNat_of_nonneg h0).symm
  have h := inv_run (m := most.toNat) hm hl l [] st0 ⟨[], [], [], [], rfl, rfl, by rw [List.take_nil]; rfl, by rw [List.take_nil]; rfl, rfl, rfl, Int.le_refl 0⟩
  rw [List.nil_append] at h
  obtain ⟨A, b, B, d, h1, h2, h3, h4, h5, h6, h7⟩ := h
  unfold paramsS lreadOf
  by_cases hp : plainL l = []
  · rw [if_pos hp, h6]
    simp [hp]
  · rw [if_neg hp, h6, if_pos (by simpa using hp)]
    have hpp : (if ((runS most limit l st0).parts.length : Int) < most then (runS most limit l st0).parts ++ [(runS most limit l st0).value] else (runS most limit l st0).parts) = rowOf most.toNat limit b := by
      rw [h5]
      unfold rowOf
      rw [h2]; exact cap_step _ _ _ hm h4
    rw [hpp, h1]
    exact cap_step (rowOf most.toNat limit) _ _ hm h3
/-! what is written is read -/
theorem split_one {α : Type} [DecidableEq α] (c : α) : ∀ (p : List α), c ∉ p → splitL c p = [p]
  | [], _ => rfl
  | x :: p, h => by
    have hx : ¬ x = c := by intro e; exact h (by rw [e]; exact .head _)
    rw [splitL, if_neg hx, split_one c p fun hm => h (.tail _ hm)]
theorem split_join {α : Type} [DecidableEq α] (c : α) : ∀ (ps : List (List α)), ps ≠ [] → (∀ p ∈ ps, c ∉ p) → splitL c (joinG [c] ps) = ps
  | [], h, _ => absurd rfl h
  | [p], _, h => split_one c p (h p (.head _))
  | p :: q :: r, _, h => by
    have ih := split_join c (q :: r) (by simp) fun p' hp => h p' (.tail _ hp)
    rw [joinG]
    have key : ∀ (p : List α), c ∉ p → splitL c (p ++ [c] ++ joinG [c] (q :: r)) = p :: q :: r := by
      intro p hp
      induction p with
      | nil =>
        show splitL c (c :: joinG [c] (q :: r)) = _
        rw [splitL, if_pos rfl, ih]
      | cons x p ihp =>
        have e := ihp fun hm => hp (.tail _ hm)
        show splitL c (x :: (p ++ [c] ++ joinG [c] (q :: r))) = _
        have hx : ¬ x = c := by intro e; exact hp (by rw [e]; exact .head _)
        rw [splitL, if_neg hx, e]
    exact key p (h p (.head _))
theorem decV_dec (n : Nat) : decV (decL n) = (n : Int) := by
  induction n using Nat.strongRecOn with
  | _ n ih =>
    unfold decL
    rw [List.reverse_cons, decV_snoc]
    by_cases h : n / 10 = 0
    · rw [h, lsd, dif_pos rfl]
      show 10 * (0 : Int) + (48 + ((n % 10 : Nat) : Int)) - 48 = n
      omega
    · have el : lsd (n / 10) = (48 + ((n / 10 % 10 : Nat) : Int)) :: lsd (n / 10 / 10) := by rw [lsd, dif_neg h]
      have := ih (n / 10) (by omega)
      unfold decL at this
      rw [el, this]
      omega
theorem partB_octs_some (i : Int) : octs (partB (some i)) = decL i.toNat := by
  show ((decL i.toNat).map (fun n => n.toNat.toUInt8)).map (fun c : UInt8 => (c.toNat : Int)) = _
  rw [List.map_map]
  have : ∀ l : List Int, (∀ x ∈ l, 48 ≤ x ∧ x ≤ 57) → l.map ((fun c : UInt8 => (c.toNat : Int)) ∘ fun n : Int => n.toNat.toUInt8) = l := by
    intro l hl
    induction l with
    | nil => rfl
    | cons x l ih =>
      rw [List.map_cons, ih fun y hy => hl y (.tail _ hy)]
      congr 1
      have hx := hl x (.head _)
      show ((x.toNat.toUInt8).toNat : Int) = x
      have : (x.toNat.toUInt8).toNat = x.toNat % 256 := by simp
      rw [this]; omega
  exact this _ (decL_in _)
theorem decL_ne (n : Nat) : decL n ≠ [] := by unfold decL; simp
theorem num_part {x : Option Int} (h : ∀ i, x = some i → 0 ≤ i ∧ i ≤ 65535) : numberOf 65535 (octs (partB x)) = x := by
  cases x with
  | none => rfl
  | some i =>
    obtain ⟨h0, h1⟩ := h i rfl
    rw [partB_octs_some]
    unfold numberOf
    rw [if_neg (decL_ne _), decV_dec]
    congr 1
    omega
def DueOk (rows : List (List (Option Int))) : Prop := rows.length ≤ 32 ∧ ∀ row ∈ rows, row ≠ [] ∧ row.length ≤ 32 ∧ ∀ i, some i ∈ row → 0 ≤ i ∧ i ≤ 65535
theorem DueOk.rows {rows : List (List (Option Int))} (h : DueOk rows) : RowsOk rows :=
  ⟨by have := h.1; omega, fun row hr => ⟨by have := (h.2 row hr).2.1; omega, fun i hi => by have := (h.2 row hr).2.2 i hi; omega⟩⟩
theorem due_ok {most limit : Int} (h0 : 1 ≤ most) (h1 : most ≤ 32) (hl0 : 0 ≤ limit) (hl1 : limit ≤ 65535) (l : List Int) : DueOk (lreadOf most limit l) := by
  unfold lreadOf
  split
  · exact ⟨by simp, fun row hr => by cases hr⟩
  · refine ⟨by rw [List.length_map, List.length_take]; omega, fun row hr => ?_⟩
    obtain ⟨one, ho, rfl⟩ := List.mem_map.mp hr
    refine ⟨?_, by rw [List.length_map, List.length_take]; omega, ?_⟩
    · intro e
      have e2 := List.map_eq_nil_iff.mp e
      have h3 : 0 < (splitL 58 one).length := List.length_pos_iff.mpr (splitL_ne _ _)
      have h4 := congrArg List.length e2
      rw [List.length_take, List.length_nil] at h4
      have h5 : 1 ≤ most.toNat := by omega
      have h6 : 1 ≤ min most.toNat (splitL 58 one).length := by
        rw [Nat.le_min]; exact ⟨h5, h3⟩
      rw [h4] at h6
      exact absurd h6 (by decide)
    · intro i hi
      obtain ⟨p, hp, hpe⟩ := List.mem_map.mp hi
      have hpm := splitL_mem (58 : Int) one p (List.mem_of_mem_take hp)
      have hom := splitL_mem (59 : Int) (plainL l) one (List.mem_of_mem_take ho)
      have hfig : ∀ c ∈ p, 48 ≤ c ∧ c ≤ 57 := by
        intro c hc
        have a1 := hpm c hc
        have a2 := hom c a1.1
        have a3 := of_decide_eq_true (List.mem_filter.mp a2.1).2
        have a4 := a1.2
        have a5 := a2.2
        omega
      have hb := decV_bd p.length p rfl hfig
      unfold numberOf at hpe
      split at hpe
      · cases hpe
      · have := Option.some.inj hpe
        omega
theorem again_eq {rows : List (List (Option Int))} (h : DueOk rows) : paramsS 32 (runS 32 65535 (octs (rowsB rows)) st0) = if rows = [[none]] then [] else rows := by
  rw [read_eq (by decide) (by decide)]
  by_cases hn : rows = []
  · subst hn; rfl
  have hpl : plainL (octs (rowsB rows)) = octs (rowsB rows) := by
    unfold plainL
    rw [List.filter_eq_self]
    intro c hc
    exact decide_eq_true (rowsB_in c hc)
  have e1 : octs (rowsB rows) = joinG [59] (rows.map fun r => octs (rowB r)) := by
    unfold rowsB
    rw [octs_joined, List.map_map]; rfl
  have e2 : ∀ row : List (Option Int), octs (rowB row) = joinG [58] (row.map fun x => octs (partB x)) := by
    intro row
    unfold rowB
    rw [octs_joined, List.map_map]; rfl
  have s1 : splitL 59 (octs (rowsB rows)) = rows.map fun r => octs (rowB r) := by
    rw [e1]
    refine split_join _ _ (by simpa using hn) ?_
    intro p hp hm
    obtain ⟨r, _, rfl⟩ := List.mem_map.mp hp
    have := rowB_in _ hm
    omega
  have s2 : ∀ row ∈ rows, splitL 58 (octs (rowB row)) = row.map fun x => octs (partB x) := by
    intro row hr
    rw [e2]
    refine split_join _ _ (by simpa using (h.2 row hr).1) ?_
    intro p hp hm
    obtain ⟨x, _, rfl⟩ := List.mem_map.mp hp
    have := partB_in _ hm
    omega
  have hrow : ∀ row ∈ rows, ((splitL 58 (octs (rowB row))).take 32).map (numberOf 65535) = row := by
    intro row hr
    rw [s2 row hr, List.take_of_length_le (by rw [List.length_map]; exact (h.2 row hr).2.1), List.map_map]
    have : ∀ l : List (Option Int), (∀ i, some i ∈ l → 0 ≤ i ∧ i ≤ 65535) → l.map (numberOf 65535 ∘ fun x => octs (partB x)) = l := by
      intro l hl
      induction l with
      | nil => rfl
      | cons x l ih =>
        rw [List.map_cons, ih fun i hi => hl i (.tail _ hi)]
        congr 1
        exact num_part fun i e => hl i (e ▸ .head _)
    exact this row (h.2 row hr).2.2
  have hall : ((splitL 59 (octs (rowsB rows))).take 32).map (fun one => ((splitL 58 one).take 32).map (numberOf 65535)) = rows := by
    rw [s1, List.take_of_length_le (by rw [List.length_map]; exact h.1), List.map_map]
    have : ∀ l : List (List (Option Int)), (∀ row ∈ l, row ∈ rows) → l.map ((fun one => ((splitL 58 one).take 32).map (numberOf 65535)) ∘ fun r => octs (rowB r)) = l := by
      intro l hl
      induction l with
      | nil => rfl
      | cons x l ih =>
        rw [List.map_cons, ih fun i hi => hl i (.tail _ hi)]
        congr 1
        exact hrow x (hl x (.head _))
    exact this rows fun row hr => hr
  unfold lreadOf
  rw [hpl]
  by_cases he : rows = [[none]]
  · subst he; rfl
  · rw [if_neg he, if_neg]
    · exact hall
    · intro hz
      rw [hz] at s1
      have l1 : rows.length = 1 := by
        have := congrArg List.length s1
        rw [List.length_map] at this
        exact this.symm
      obtain ⟨row, rfl⟩ := List.length_eq_one_iff.mp l1
      have z1 : octs (rowB row) = [] := by
        have := s1
        simpa [splitL] using this.symm
      have s3 := s2 row (.head _)
      rw [z1] at s3
      have l2 : row.length = 1 := by
        have := congrArg List.length s3
        rw [List.length_map] at this
        exact this.symm
      obtain ⟨x, rfl⟩ := List.length_eq_one_iff.mp l2
      have z2 : octs (partB x) = [] := by simpa [splitL] using s3.symm
      cases x with
      | none => exact he rfl
      | some i => rw [partB_octs_some] at z2; exact decL_ne _ z2
/-! values at places -/
theorem at_true (rows : List (List (Option Int))) (k d : Int) : (if plainOf rows k 0 = 0 then d else plainOf rows k 0) = atOf rows k d true := by
  unfold plainOf atOf
  split <;> simp_all
theorem at_false (rows : List (List (Option Int))) (k d : Int) : plainOf rows k d = atOf rows k d false := by
  unfold plainOf atOf
  split <;> simp_all
def headOf : List (Option Int) → Int
  | some i :: _ => i
  | _ => 0
theorem values_eq (rows : List (List (Option Int))) : ((List.range rows.length).map fun (i : Nat) => plainOf rows (i : Int) 0) = rows.map headOf := by
  apply List.ext_getElem
  · simp
  · intro n h1 h2
    have hn : n < rows.length := by simpa using h1
    rw [List.getElem_map, List.getElem_map, List.getElem_range]
    unfold plainOf headOf
    rw [Int.toNat_natCast, List.getElem?_eq_getElem hn]
    cases rows[n] with
    | nil => rfl
    | cons x r => cases x <;> rfl
end
section
section
variable {prog : Program} {A : Around}
theorem cut_toks {t : Sem Value} {P : Value → Prop} (h : wpAny (model prog w) A t (fun v s' => P v ∧ ∃ tk, s' = { s with toks := tk }) E s) (k : ∀ v tk, P v → Q v { s with toks := tk }) : wpAny (model prog w) A t Q E s :=
  wpAny_mono h (fun v s' ⟨hp, tk, e⟩ => e ▸ k v tk hp) fun _ _ z => z
end
theorem news_swap {h₀ h : Heap} {L : Addr} {q : Addr × Obj} {l r : List (Addr × Obj)} (N : News h₀ L h (q :: (l ++ r))) : News h₀ L h (l ++ (q :: r)) := news_sub N fun p hp => by
  rcases List.mem_append.mp hp with hp | hp
  · exact .tail _ (List.mem_append.mpr (.inl hp))
  · rcases List.mem_cons.mp hp with rfl | hp
    · exact .head _
    · exact .tail _ (List.mem_append.mpr (.inr hp))
theorem news_back {h₀ h : Heap} {L : Addr} {q : Addr × Obj} {l r : List (Addr × Obj)} (N : News h₀ L h (l ++ (q :: r))) : News h₀ L h (q :: (l ++ r)) := news_sub N fun p hp => by
  rcases List.mem_cons.mp hp with rfl | hp
  · exact List.mem_append.mpr (.inr (.head _))
  · rcases List.mem_append.mp hp with hp | hp
    · exact List.mem_append.mpr (.inl hp)
    · exact List.mem_append.mpr (.inr (.tail _ hp))
theorem one_ne {q : Addr × Obj} {d : Addr} (h : @LT.lt Nat _ d q.1) : ∀ p ∈ [q], p.1 ≠ d := by
  intro p hp
  rw [List.mem_singleton.mp hp]
  exact Nat.ne_of_gt h
theorem getD4 {k : Int} (h0 : 0 ≤ k) (h1 : k < 4) : 1 ≤ [(32 : Int), 1, 2, 3].getD k.toNat 0 ∧ [(32 : Int), 1, 2, 3].getD k.toNat 0 ≤ 32 := by
  have : k = 0 ∨ k = 1 ∨ k = 2 ∨ k = 3 := by omega
  rcases this with rfl | rfl | rfl | rfl <;> decide
theorem getD3 {k : Int} (h0 : 0 ≤ k) (h1 : k < 3) : 0 ≤ [(65535 : Int), 99, 9999].getD k.toNat 0 ∧ [(65535 : Int), 99, 9999].getD k.toNat 0 ≤ 65535 := by
  have : k = 0 ∨ k = 1 ∨ k = 2 := by omega
  rcases this with rfl | rfl | rfl <;> decide
theorem no_ne {d : Addr} : ∀ p ∈ ([] : List (Addr × Obj)), p.1 ≠ d := fun _ h => absurd h List.not_mem_nil
theorem piece_item {A : Around} {value slice : PySem.Expr} {k : Int} {u : Tok} (F : Fr h₀ L s.heap m) (X₀ : (Mine.hd.heap_39 w.params).In h₀) (h0 : 0 ≤ k) (h1 : k < 12) (h : ∀ b t, b.size ≤ 12 → Q (.bytes b t) s)
    (hs : ∀ k, subscripted slice false (.ref 116) (.int k u) = operate [.ref 116, .int k u] (getItem (.ref 116) (.int k u))) :
    wpAny (model PySem.Challenge.rw_np0269_01.row.prog w) A (subscriptTail value slice (.ref 116) (.int k u)) Q E s := by
  obtain ⟨n, rfl⟩ := Int.eq_ofNat_of_zero_le h0
  have hn : n < 12 := by omega
  iterate 12
    rcases n with _ | n
    · exact topTup_K (n := 0) F X₀ (by rfl) (by decide) (by decide) (by rfl) (by rfl) (h _ _ (by decide)) (hs _)
  exact absurd hn (by omega)
theorem map3 {a b c : Str} {v : Option Value} {m₀ m₁ : Str → Option Value} (h : ∀ y, y ≠ a → y ≠ b → y ≠ c → m₁ y = m₀ y) : (fun y => if y = a then v else m₁ y) = fun y => if y = a then v else if y = b then m₁ y else if y = c then m₁ y else m₀ y := by
  funext y
  by_cases h1 : y = a
  · simp [h1]
  · by_cases h2 : y = b
    · simp [h2]
    · by_cases h3 : y = c
      · simp [h3]
      · simp [h1, h2, h3, h y h1 h2 h3]
theorem map3d {a b c : Str} {m₀ m₁ : Str → Option Value} (h : ∀ y, y ≠ a → y ≠ b → y ≠ c → m₁ y = m₀ y) : m₁ = fun y => if y = a then m₁ y else if y = b then m₁ y else if y = c then m₁ y else m₀ y := by
  funext y
  by_cases h1 : y = a
  · simp [h1]
  · by_cases h2 : y = b
    · simp [h2]
    · by_cases h3 : y = c
      · simp [h3]
      · simp [h1, h2, h3, h y h1 h2 h3]
theorem cases3 (c : Int) : (48 ≤ c ∧ c ≤ 59) ∨ c < 48 ∨ 59 < c := by omega
theorem sub_gr {nx R : List (Addr × Obj)} {q1 q2 q3 q4 : Addr × Obj} {fz gr : List (Addr × Obj)} (h : nx = q1 :: q2 :: q3 :: q4 :: fz) (hg : gr = fz ++ R) : ∀ q ∈ nx ++ R, q ∈ q1 :: q2 :: q3 :: q4 :: gr := by
  intro q hq
  rw [h] at hq
  rw [hg]
  exact hq
theorem octs_pick (b : Array UInt8) (j : Nat) : octs (KBy.picked b none (some ((j : Int) + 1))) = (octs b).take (j + 1) := by
  have h := KBc.ints_picked (b := b) (ks := octs b) rfl none (some ((j : Int) + 1))
  show KBw.bInts _ = _
  rw [h]
  simp only [Option.elim]
  rw [show ((j : Int) + 1) = ((j + 1 : Nat) : Int) from rfl, clipAt_nat, List.drop_zero, Nat.sub_zero, kmk_take_min]
theorem gr_sub {nx R : List (Addr × Obj)} {q1 q2 q3 q4 : Addr × Obj} {fz gr : List (Addr × Obj)} (h : nx = q1 :: q2 :: q3 :: q4 :: fz) (hg : gr = fz ++ R) : ∀ q ∈ q1 :: q2 :: q3 :: q4 :: gr, q ∈ nx ++ R := by
  intro q hq
  rw [h]
  rw [hg] at hq
  exact hq
theorem vD_inj {x y : Option Int} (h : vD x = vD y) : x = y := by
  cases x <;> cases y <;> simp_all [vD]
theorem rowD_inj {x y : List (Option Int)} (h : rowD x = rowD y) : x = y := by
  unfold rowD at h
  have h' := Dat.list.inj h
  exact List.map_inj_right (fun a b e => vD_inj e) |>.mp h'
theorem rowsD_inj {x y : List (List (Option Int))} (h : x.map rowD = y.map rowD) : x = y := List.map_inj_right (fun a b e => rowD_inj e) |>.mp h
/-- a made list of rows is handed on -/
def RowsEnd (h₀ : Heap) (L : Addr) (m : Str → Option Value) (s : Shared) (R0 : List (Addr × Obj)) (rr : List (List (Option Int))) (v : Value) (s' : Shared) : Prop :=
  ∃ (a : Addr) (vsx : List Value) (nx : Nat) (l9x news' : List (Addr × Obj)) (h' : Heap) (tk : Nat), v = .ref a ∧ s' = { s with heap := h', toks := tk } ∧ Fr h₀ L h' m ∧ News h₀ L h' news' ∧ (a, listOf vsx.toArray nx) ∈ news' ∧ DatAll l9x vsx (rr.map rowD) ∧ (∀ q ∈ l9x, q ∈ news') ∧ ∀ q ∈ R0, q ∈ news'
theorem cut_rows {prog : Program} {A : Around} {t : Sem Value} {R0 : List (Addr × Obj)} {rr : List (List (Option Int))} (_F : Fr h₀ L s.heap m) (h : wpAny (model prog w) A t (RowsEnd h₀ L m s R0 rr) E s)
    (k : ∀ (a : Addr) (vsx : List Value) (nx : Nat) (l9x news' : List (Addr × Obj)) (h' : Heap) (tk : Nat), Fr h₀ L h' m → News h₀ L h' news' → (a, listOf vsx.toArray nx) ∈ news' → DatAll l9x vsx (rr.map rowD) → (∀ q ∈ l9x, q ∈ news') → (∀ q ∈ R0, q ∈ news') → Q (.ref a) { s with heap := h', toks := tk }) : wpAny (model prog w) A t Q E s :=
  wpAny_mono h (fun v s' ⟨a, vsx, nx, l9x, news', h', tk, e1, e2, F, N, hm, hD, hs, hR⟩ => by rw [e1, e2]; exact k a vsx nx l9x news' h' tk F N hm hD hs hR) fun _ _ z => z
open Classical in
theorem due_ne {prog : Program} {A : Around} {r i l : Addr} {vs : List Value} {nr k1 k2 : Nat} {news l9 : List (Addr × Obj)} {due : List (List (Option Int))}
    (N : News h₀ L s.heap ((l, listOf (List.toArray [Value.ref i]) k1) :: (i, listOf (List.toArray [Value.none]) k2) :: news)) (hr : (r, listOf vs.toArray nr) ∈ news) (hD : DatAll l9 vs (due.map rowD)) (hs : ∀ p ∈ l9, p ∈ news) (hu : A.units + 64 < cLine)
    (h : Q (.bool (!decide (due = [[none]]))) s) : wpAny (model prog w) A (compareOp .NotEq (.ref r) (.ref l)) Q E s := by
  have e : (due.map rowD = [rowD [none]]) ↔ due = [[none]] := ⟨fun h => rowsD_inj (y := [[none]]) h, fun h => by rw [h]; rfl⟩
  refine kqd_ne (es := [rowD [none]]) N (.tail _ (.tail _ hr)) rfl rfl hD (fun p hp => .tail _ (.tail _ (hs p hp))) (.head _) rfl rfl (xs := vs) (ys := [.ref i]) (.cons (DatIn.list (.head _) (.cons .none .nil)) .nil) (n₂ := [(i, listOf (List.toArray [Value.none]) k2)])
    (fun p hp => by rw [List.mem_singleton.mp hp]; exact .tail _ (.head _)) (rowsD_ok 7 _) (rowsD_ok 7 [[none]]) hu ?_
  by_cases hn : due = [[none]]
  · rw [decide_eq_true (e.mpr hn)]; rw [decide_eq_true hn] at h; exact h
  · rw [decide_eq_false (fun h => hn (e.mp h))]; rw [decide_eq_false hn] at h; exact h
theorem news_more {h₀ h : Heap} {L : Addr} {q : Addr × Obj} {l : List (Addr × Obj)} (N : News h₀ L h l) (hq : q ∈ l) : News h₀ L h (q :: l) := news_sub N fun p hp => by
  rcases List.mem_cons.mp hp with rfl | hp
  · exact hq
  · exact hp
/-- the ledger bears the deck -/
def DeckIn (w : World) (d c : Addr) (nx : List (Addr × Obj)) : Prop :=
  ∃ o mx tm us ms nn, nx = [(d, o), (c, listOf us.toArray nn)] ∧ o.IsDictOf (PySem.strKind PySem.Challenge.rw_np0269_01.row.prog w) [(Str.ofString "cells", .ref c), (Str.ofString "mixed", .int mx tm)] ∧
    IntsAre us ms ∧ ms.length ≤ 64 ∧ 0 ≤ mx ∧ mx < 2147483647
theorem deck_addr {w : World} {d c : Addr} {nx : List (Addr × Obj)} (h : DeckIn w d c nx) : nx.map (·.1) = [d, c] := by
  obtain ⟨o, mx, tm, us, ms, nn, rfl, _⟩ := h
  rfl
theorem off_dc {w : World} {d c : Addr} {nx own : List (Addr × Obj)} (h : DeckIn w d c nx) (ho : OwnOff own (nx.map (·.1))) : (∀ p ∈ own, p.1 ≠ d) ∧ ∀ p ∈ own, p.1 ≠ c := by
  rw [deck_addr h] at ho
  exact ⟨fun p hp => ho p hp d (.head _), fun p hp => ho p hp c (.tail _ (.head _))⟩
theorem deck_fr {w : World} {d c : Addr} {nx l : List (Addr × Obj)} (h : DeckIn w d c nx) (hf : ∀ p ∈ l, ∀ q ∈ nx, @Ne Nat p.1 q.1) : (∀ p ∈ l, p.1 ≠ d) ∧ ∀ p ∈ l, p.1 ≠ c := by
  obtain ⟨o, mx, tm, us, ms, nn, rfl, _⟩ := h
  exact ⟨fun p hp => hf p hp _ (.head _), fun p hp => hf p hp _ (.tail _ (.head _))⟩
theorem deck_lt {w : World} {d c l : Addr} {nx : List (Addr × Obj)} (h : DeckIn w d c nx) (ho : ∀ p ∈ nx, p.1 < l) : @LT.lt Nat _ d l ∧ @LT.lt Nat _ c l := by
  obtain ⟨o, mx, tm, us, ms, nn, rfl, _⟩ := h
  exact ⟨ho _ (.head _), ho _ (.tail _ (.head _))⟩
theorem draw_in {d c : Addr} {nx rest : List (Addr × Obj)} {many : Int} {tk : Tok}
   (B : Below A₀ base outer h₀) (F : Fr h₀ L s.heap m) (X : (Mine.hd.heap_39 w.params).In h₀) (N : News h₀ L s.heap (nx ++ rest))
   (T : Top Mine.hd.view_39 loose mean mg mb h₀) (hk : cs.kind = .function) (hdp : dp + 10 < recursionLimit) (hun : un + 200 < cLine)
   (hD : DeckIn w d c nx) (hdc : @Ne Nat d c) (hdr : ∀ p ∈ rest, p.1 ≠ d) (hcr : ∀ p ∈ rest, p.1 ≠ c) (hm0 : 0 < many) (hm1 : many < 100)
   (ret : ∀ k t nx' h' tk', Fr h₀ L h' m → News h₀ L h' (nx' ++ rest) → DeckIn w d c nx' → 0 ≤ k → k < many → Q (.int k t) { s with heap := h', toks := tk' }) :
   wpAny (model PySem.Challenge.rw_np0269_01.row.prog w) (ktrTop dp un gd cn cs L a ccd cl outer) (call (.ref 128) [.ref d, .int many tk]) Q E s := by
  obtain ⟨o, mx, tm, us, ms, nn, rfl, h1, h2, h3, h4, h5⟩ := hD
  refine draw_walk w B F X N h1 T hk hdp hun h2 hdc hdr hcr h3 h4 h5 hm0 hm1 ?_
  intro k t o' mx' tm' vs' ns' nn' h' tk' F' N' h1' h2' h3' h4' h5' k0 k1
  exact ret k t _ h' tk' F' N' ⟨o', mx', tm', vs', ns', nn', rfl, h1', h2', h3', h4', h5'⟩ k0 k1
section
theorem law_all : PySem.Challenge.rw_np0269_01.Holds := by
  refine Mine.hd ?_
  k_go0
  (all_goals try k_fold)
  have ckm : Stops 1 := .mk
  have st3 : Stops 3 := .mk
  have st116 : Stops 116 := .mk
  k_steps
  refine Stop.of ?_
  rename Below callerA _ _ _ => B0; rename Top _ _ _ _ _ _ => T0; rename PySem.W.Frag.In _ _ => X0; rename Fr _ _ _ _ => F1; rename News _ _ _ _ => N1
  rename Heap.IsList _ _ _ => hL0; rename IntsAre _ _ => hI0; rename PyData.layable0 (PyData.list _) = true => hlay0
  k_dflt (refine deck_walk _ B0 F1 X0 N1 T0 rfl (by k_room) (by k_units) hL0 hI0 hlay0 ?_)
  clear F1 N1
  intro d c o mx tm us nn ms h1 tk1 F1 N1 hdc _ _ hO1 hI1 hms hmx0 hmx1
  have hDk : DeckIn _ d c [(d, o), (c, W.listOf us.toArray nn)] := ⟨o, mx, tm, us, ms, nn, rfl, hO1, hI1, hms, hmx0, hmx1⟩
  k_steps
  refine Stop.of ?_
  rename Fr _ _ _ _ => F1; rename News _ _ _ _ => N1; rename d < _ ∧ c < _ => l1
  k_dflt (refine draw_in _ B0 F1 X0 (news_swap (l := [(d, o), (c, W.listOf us.toArray nn)]) N1) T0 rfl (by k_room) (by k_units) hDk hdc (one_ne l1.1) (one_ne l1.2) (by decide) (by decide) ?_)
  clear F1 hDk hO1 hI1 hms hmx0 hmx1
  intro k1 t1 nx1 h2 tk2 F1 N2 hDk h0k h1k
  have N3 := news_back N2
  clear N2 N1
  rw [List.append_nil] at N3
  obtain ⟨hm0, hm1⟩ := getD4 h0k h1k
  k_steps
  as_aux_lemma =>
  refine Stop.of ?_
  rename Fr _ _ _ _ => F1; rename News _ _ _ _ => N1
  generalize [(32 : Int), 1, 2, 3].getD k1.toNat 0 = most at F1 hm0 hm1
  k_dflt (refine draw_in _ B0 F1 X0 (nx := nx1) (rest := []) (news_sub N1 fun q hq => by rw [List.append_nil] at hq; exact .tail _ (.tail _ hq)) T0 rfl (by k_room) (by k_units) hDk hdc no_ne no_ne (by decide) (by decide) ?_)
  clear F1 N1 hDk
  intro k2 t2 nx2 h3 tk3 F1 N1 hDk h0k2 h1k2
  rw [List.append_nil] at N1
  k_steps
  refine Stop.of ?_
  rename Fr _ _ _ _ => F1; rename News _ _ _ _ => N1; rename IsRange _ _ _ _ _ _ _ _ => hR1
  clear l1
  obtain ⟨m0, hme, F2⟩ : ∃ m0, m0 = _ ∧ Fr _ _ _ m0 := ⟨_, rfl, F1⟩
  clear F1
  refine range_J (n := (1 + k2).toNat) (fun i m₁ nx => (∀ y, y ≠ Str.ofString "turn" → y ≠ Str.ofString "octets" → m₁ y = m0 y) ∧ DeckIn _ d c nx ∧ ∃ b t, m₁ (Str.ofString "octets") = some (.bytes b t) ∧ b.size ≤ 12 * i) rfl F2 N1 hR1 (by omega) (by omega) ⟨fun _ _ _ => rfl, hDk, _, _, by rw [hme]; rfl, Nat.zero_le _⟩ ?_ ?_
  · clear F2 N1 hR1 hDk
    rintro i tv m₁ nx h tk own hi hoff ⟨hm, hDk, b, tb, hb, hbs⟩ F1 N1
    rw [map_one hb hm, hme] at F1
    (try k_unmd); (try k_fold)
    k_steps
    refine Stop.of ?_
    have hod := off_dc hDk hoff
    k_dflt (refine draw_in _ B0 F1 X0 N1 T0 rfl (by k_room) (by k_units) hDk hdc hod.1 hod.2 (by decide) (by decide) ?_)
    clear F1 N1
    intro k3 t3 nx3 h4 tk4 F1 N1 hDk3 h0k3 h1k3
    k_steps
    as_aux_lemma =>
    refine Stop.of ?_
    k_dflt (refine piece_item _ F1 X0 h0k3 h1k3 ?_ (by intro _; with_unfolding_all rfl))
    intro pb tpb hpb
    k_steps
    refine KBy.add_bytes (by omega) ?_
    intro tnb knb
    have hnb : (b ++ pb).size ≤ 12 * (i + 1) := by rw [Array.size_append]; omega
    generalize b ++ pb = nb at hnb ⊢
    k_steps
    rename Fr _ _ _ _ => F3; rename News _ _ _ _ => N3
    refine lend nx3 F3 N3 (fun q hq => hq) ?_ ⟨fun y h1 h2 => ?_, hDk3, nb, tnb, ?_, hnb⟩
    · rw [deck_addr hDk3, ← deck_addr hDk]; exact hoff
    · rw [hme]; simp [h1, h2]
    · exact if_pos rfl
  · clear F2 N1 hR1 hDk
    rintro m₁ nx h tk ⟨hm, hDk, b, tb, hb, hbs⟩ F1 N1
    rw [← done_one hb hm, hme] at F1
    have hbs2 : b.size ≤ 99 := by omega
    (try k_unmd); (try k_fold)
    k_steps
    refine Stop.of ?_
    rename Fr _ _ _ _ => F2; rename News _ _ _ _ => N2; rename ∀ p ∈ nx, p.1 < _ => l1
    have hdl := deck_lt hDk l1
    k_dflt (refine draw_in _ B0 F2 X0 (news_swap (l := nx) (r := []) (by rw [List.append_nil]; exact N2)) T0 rfl (by k_room) (by k_units) hDk hdc (one_ne hdl.1) (one_ne hdl.2) (by decide) (by decide) ?_)
    clear F2 N2 hDk
    intro k4 t4 nx4 h4 tk4 F1 N1 hDk h0k4 h1k4
    have N3 := news_back N1
    clear N1
    rw [List.append_nil] at N3
    obtain ⟨hl0, hl1⟩ := getD3 h0k4 h1k4
    k_steps
    refine Stop.of ?_
    rename Fr _ _ _ _ => F1; rename News _ _ _ _ => N1
    generalize [(65535 : Int), 99, 9999].getD k4.toNat 0 = limit at F1 hl0 hl1 ⊢
    have hm00 : 0 ≤ most := by omega
    k_dflt (refine lread_walk _ B0 F1 X0 (news := nx4) (news_sub N1 fun q hq => .tail _ hq) T0 rfl (by k_room) (by k_units) hbs2 hm00 hm1 hl0 hl1 ?_)
    clear F1 N1
    intro r vs nr l9 h5 tk5 hDr F1 N1 hfr
    have hdue := due_ok hm0 hm1 hl0 hl1 (octs b)
    have hrd := read_eq hm00 hl0 (octs b)
    generalize hdd : lreadOf most limit (octs b) = due at hDr hdue hrd
    obtain ⟨R0, hR0, N2⟩ : ∃ R0, R0 = _ ∧ News _ _ _ R0 := ⟨_, rfl, N1⟩
    clear N1
    have hrR : (r, W.listOf vs.toArray nr) ∈ R0 := by rw [hR0]; exact .head _
    have hlR : ∀ p ∈ l9, p ∈ R0 := by rw [hR0]; exact fun p hp => .tail _ (List.mem_append.mpr (.inl hp))
    have hxR : ∀ p ∈ nx4, p ∈ R0 := by rw [hR0]; exact fun p hp => .tail _ (List.mem_append.mpr (.inr hp))
    have hok := hdue.rows
    k_steps
    as_aux_lemma =>
    refine Stop.of ?_
    rename Fr _ _ _ _ => F1; rename News _ _ _ R0 => N2
    k_dflt (refine read_walk _ B0 F1 X0 N2 T0 rfl (by k_room) (by k_units) hm00 hm1 hl0 hl1 ?_)
    rw [hrd]
    clear F1 N2
    intro r2 vs2 nr2 l92 h6 tk6 hD2 F1 N1
    k_steps
    refine Stop.of ?_
    rename Fr _ _ _ _ => F1; rename News _ _ _ _ => N1
    k_dflt (refine repr_rows F1 N1 (.head _) hD2 (fun q hq => .tail _ (List.mem_append.mpr (.inl hq))) hok rfl (Nat.le_of_ble_eq_true (by kernel_rfl)) ?_)
    clear F1
    intro h7 u7 tk7 F1 N2
    have N1 := news_sub N2 (fun q (hq : q ∈ R0) => .tail _ (List.mem_append.mpr (.inr hq)))
    clear N2
    k_steps
    refine Stop.of ?_
    rename Fr _ _ _ _ => F1; rename News _ _ _ R0 => N1
    k_dflt (refine repr_rows F1 N1 hrR hDr hlR hok rfl (Nat.le_of_ble_eq_true (by kernel_rfl)) ?_)
    clear F1 N1
    intro h8 u8 tk8 F1 N1
    rename Stops 1 => cq
    clear cq
    k_steps
    as_aux_lemma =>
    refine Stop.of ?_
    have ckm : Stops 1 := .mk
    rename Fr _ _ _ _ => F1; rename News _ _ _ _ => N1; rename IsRange _ _ _ _ _ _ _ _ => hR2
    rename ∀ p ∈ R0, p.1 < _ => j0; rename _ ∧ _ ∧ _ ∧ AllLt _ R0 => j3; rename _ ∧ _ ∧ AllLt _ R0 => j2
    rename (_ : Nat) < (_ : Nat) => j1
    obtain ⟨nx0, hRI0, N2, hO0⟩ := ri_start N1 j0 j1 j2.1 j3.1
    clear N1
    obtain ⟨m2, hm2e, F2⟩ : ∃ m2, m2 = _ ∧ Fr _ _ _ m2 := ⟨_, rfl, F1⟩
    clear F1
    refine range_J (n := 2) (fun i m₁ nw => (∀ y, y ≠ Str.ofString "turn" → y ≠ Str.ofString "at" → y ≠ Str.ofString "sign" → m₁ y = m2 y) ∧ ∃ nx, nw = nx ++ R0 ∧ RI _ _ _ most limit st0 nx ∧ OwnOff R0 (nx.map (·.1))) rfl F2 N2 hR2 rfl (by decide) ⟨fun _ _ _ _ => rfl, nx0, rfl, hRI0, hO0⟩ ?_ ?_
    · clear F2 N2 hR2 hRI0 hO0 j0 j1 j2 j3
      rintro i tv m₃ nw h9 tk9 own hi hoff ⟨hm3, nx5, rfl, hRI, hO⟩ F1 N1
      rw [map3 hm3, hm2e] at F1
      (try k_unmd); (try k_fold)
      k_steps
      refine Stop.of ?_
      rename Fr _ _ _ _ => F2; rename News _ _ _ _ => N1
      k_dflt (refine For_turns F2 ?_)
      k_steps
      refine Stop.of ?_
      rename Fr _ _ _ _ => F2; rename News _ _ _ _ => N1
      obtain ⟨m4, hm4e, F3⟩ : ∃ m4, m4 = _ ∧ Fr _ _ _ m4 := ⟨_, rfl, F2⟩
      clear F2
      rw [List.append_assoc] at N1
      obtain ⟨R1, hR1, N2⟩ : ∃ R1, R1 = R0 ++ own ∧ News _ _ _ (nx5 ++ R1) := ⟨_, rfl, N1⟩
      clear N1
      have hO1 : OwnOff R1 (nx5.map (·.1)) := by rw [hR1]; exact own_app hO (off_left hoff)
      refine enum_J (fun j m₁ nw => (∀ y, y ≠ Str.ofString "turn" → y ≠ Str.ofString "at" → y ≠ Str.ofString "sign" → m₁ y = m4 y) ∧ ∃ nx, nw = nx ++ R1 ∧ RI _ _ _ most limit (runS most limit ((octs b).take j) st0) nx ∧ OwnOff R1 (nx.map (·.1))) rfl F3 N2 ⟨fun _ _ _ _ => rfl, nx5, rfl, hRI, hO1⟩ ?_ ?_
      · clear F3 N2 hRI hO1
        rintro j cc Tp ta ts m5 nw h10 tk10 own2 hcc hTp hoff2 ⟨hm5, nx6, rfl, hRI, hO1⟩ F1 N1
        rw [map3d hm5, hm4e] at F1
        have hRI' := hRI
        obtain ⟨f, p, v, fs, ps, nf, np, y1, y2, y3, y4, y5, y6, ym, yl, fz, hnx, _⟩ := hRI'
        rw [hnx, List.append_assoc] at N1
        simp only [List.cons_append, List.append_assoc] at N1
        obtain ⟨gr, hgr, N2⟩ : ∃ gr, gr = fz ++ (R1 ++ own2) ∧ News _ _ _ (_ :: _ :: _ :: _ :: gr) := ⟨_, rfl, N1⟩
        clear N1
        have hci := byte_in cc
        have hokS := runS_ok hm00 hl0 ((octs b).take j) (st0_ok (limit := limit) hm00)
        (try k_unmd); (try k_fold)
        k_steps
        as_aux_lemma =>
        refine Stop.of ?_
        rename Fr _ _ _ _ => F1; rename News _ _ _ (_ :: _ :: _ :: _ :: gr) => N2
        have hO3 : OwnOff (R1 ++ own2) (nx6.map (·.1)) := own_app hO1 (off_left hoff2)
        have hon := off_right hoff2
        k_dflt (refine put_walk _ B0 F1 X0 (news_sub N2 (sub_gr hnx hgr)) T0 rfl (by k_room) (by k_units) hRI hO3 hokS hm00 hm1 hl0 hl1 hci.1 hci.2 ?_)
        clear F1 N2 hRI hO1 hO3 hoff2 hnx hgr hokS
        intro bb h11 tk11 nx7 hbb F1 N1 R3 O3
        rw [← run_step hcc] at R3
        have hokS := runS_ok hm00 hl0 ((octs b).take (j + 1)) (st0_ok (limit := limit) hm00)
        have hR7 := R3
        obtain ⟨f7, p7, v7, fs7, ps7, nf7, np7, z1, z2, z3, z4, z5, z6, zm, zl, fz7, hnx7, _⟩ := hR7
        have N3 := N1
        rw [hnx7] at N3
        simp only [List.cons_append] at N3
        obtain ⟨gr7, hgr7, N2⟩ : ∃ gr, gr = fz7 ++ (R1 ++ own2) ∧ News _ _ _ (_ :: _ :: _ :: _ :: gr) := ⟨_, rfl, N3⟩
        clear N3 N1
        have cmk : Stops 7 := .mk
        k_steps
        refine Stop.of ?_
        refine cut_toks _ (P := fun v => v = .bool (decide (48 ≤ (cc.toNat : Int) ∧ (cc.toNat : Int) ≤ 59))) ?_ ?_
        · rename Stops 7 => cmk2
          clear cmk2
          k_steps
          all_goals first | exact ⟨_, rfl⟩ | (refine congrArg Value.bool ?_; rw [decide_eq_decide]; omega)
        · rintro _ tk12 rfl
          rw [← hbb]
          k_steps
          · refine Stop.of ?_
            rename Fr _ _ _ _ => F1; rename News _ _ _ (_ :: _ :: _ :: _ :: gr7) => N2
            k_dflt (refine params_m _ B0 F1 X0 (news_sub N2 (sub_gr hnx7 hgr7)) T0 rfl (by k_room) (by k_units) R3 hokS hm00 hm1 hl0 hl1 ?_)
            rw [read_eq hm00 hl0]
            clear F1 N2
            intro r9 vs9 nr9 l99 h12 tk13 hD9 F1 N1
            have hdue9 := (due_ok hm0 hm1 hl0 hl1 ((octs b).take (j + 1))).rows
            generalize hrr : lreadOf most limit ((octs b).take (j + 1)) = rr at hD9 hdue9
            k_steps
            refine Stop.of ?_
            rename Fr _ _ _ _ => F1; rename News _ _ _ _ => N1
            k_dflt (refine repr_rows F1 N1 (.head _) hD9 (fun q hq => .tail _ (List.mem_append.mpr (.inl hq))) hdue9 rfl (Nat.le_of_ble_eq_true (by kernel_rfl)) ?_)
            clear F1
            intro h13 u13 tk14 F1 N2
            have N1 := news_sub N2 (fun q (hq : q ∈ nx7 ++ (R1 ++ own2)) => .tail _ (List.mem_append.mpr (.inr hq)))
            clear N2
            k_steps
            rename Fr _ _ _ _ => F1; rename News _ _ _ (nx7 ++ (R1 ++ own2)) => N1
            refine KBc.slice_K (s := ⟨_, _, _, _, _⟩) F1 N1 rfl (by constructor) (by constructor) (by rw [KBw.ints_length]; omega) ?_
            clear F1 N1
            intro h14 t15 k15 F1 N1 _
            have hpo := octs_pick b j
            have hps : (KBy.picked b none (some ((j : Int) + 1))).size ≤ 99 := Nat.le_trans (KBc.size_picked_le _ _ _) hbs2
            generalize KBy.picked b none (some ((j : Int) + 1)) = pk at hpo hps ⊢
            k_steps
            as_aux_lemma =>
            refine Stop.of ?_
            rename Fr _ _ _ _ => F1; rename News _ _ _ (nx7 ++ (R1 ++ own2)) => N1
            k_dflt (refine lread_walk _ B0 F1 X0 N1 T0 rfl (by k_room) (by k_units) hps hm00 hm1 hl0 hl1 ?_)
            rw [hpo, hrr]
            clear F1 N1
            intro r10 vs10 nr10 l100 h15 tk15 hD10 F1 N1 _
            k_steps
            refine Stop.of ?_
            rename Fr _ _ _ _ => F1; rename News _ _ _ (_ :: _) => N1
            k_dflt (refine repr_rows F1 N1 (.head _) hD10 (fun q hq => .tail _ (List.mem_append.mpr (.inl hq))) hdue9 rfl (Nat.le_of_ble_eq_true (by kernel_rfl)) ?_)
            clear F1
            intro h16 u16 tk16 F1 N2
            have N1 := news_sub N2 (fun q (hq : q ∈ nx7 ++ (R1 ++ own2)) => .tail _ (List.mem_append.mpr (.inr hq)))
            clear N2
            k_steps
            rename Fr _ _ _ _ => F1; rename News _ _ _ (nx7 ++ (R1 ++ own2)) => N1
            refine lend (nx7 ++ R1) F1 N1 (fun q hq => by rw [List.append_assoc] at hq; exact hq) (off_app (own_right O3) hon) ⟨?_, nx7, rfl, R3, own_left O3⟩
            intro y e1 e2 e3
            rw [hm4e]; simp [e1, e2, e3]
          · rename Fr _ _ _ _ => F1; rename News _ _ _ (_ :: _ :: _ :: _ :: gr7) => N2
            refine lend (nx7 ++ R1) F1 (news_sub N2 (sub_gr hnx7 hgr7)) (fun q hq => by rw [List.append_assoc] at hq; exact hq) (off_app (own_right O3) hon) ⟨?_, nx7, rfl, R3, own_left O3⟩
            intro y e1 e2 e3
            rw [hm4e]; simp [e1, e2, e3]
      · clear F3 N2 hRI hO1
        rintro m5 nw h10 tk10 ⟨hm5, nx6, rfl, hRI, hO1⟩ F1 N1
        rw [map3d hm5, hm4e] at F1
        rw [← octs_len, List.take_length] at hRI
        have hRI' := hRI
        obtain ⟨f, p, v, fs, ps, nf, np, y1, y2, y3, y4, y5, y6, ym, yl, fz, hnx, _⟩ := hRI'
        rw [hnx] at N1
        simp only [List.cons_append] at N1
        obtain ⟨gr, hgr, N2⟩ : ∃ gr, gr = fz ++ R1 ∧ News _ _ _ (_ :: _ :: _ :: _ :: gr) := ⟨_, rfl, N1⟩
        clear N1
        have hokS := runS_ok hm00 hl0 (octs b) (st0_ok (limit := limit) hm00)
        (try k_unmd); (try k_fold)
        k_steps
        refine Stop.of ?_
        rename Fr _ _ _ _ => F1; rename News _ _ _ (_ :: _ :: _ :: _ :: gr) => N2
        k_dflt (refine params_m _ B0 F1 X0 (news_sub N2 (sub_gr hnx hgr)) T0 rfl (by k_room) (by k_units) hRI hokS hm00 hm1 hl0 hl1 ?_)
        rw [hrd]
        clear F1 N2
        intro r11 vs11 nr11 l110 h11 tk11 hD11 F1 N1
        k_steps
        as_aux_lemma =>
        refine Stop.of ?_
        rename Fr _ _ _ _ => F1; rename News _ _ _ (_ :: _) => N1
        k_dflt (refine repr_rows F1 N1 (.head _) hD11 (fun q hq => .tail _ (List.mem_append.mpr (.inl hq))) hok rfl (Nat.le_of_ble_eq_true (by kernel_rfl)) ?_)
        clear F1 N1
        intro h12 u12 tk12 F1 N1
        have N2 := news_sub N1 (fun q hq => .tail _ (List.mem_append.mpr (.inr (gr_sub hnx hgr q hq))))
        clear N1
        k_steps
        refine Stop.of ?_
        rename Fr _ _ _ _ => F1; rename News _ _ _ (_ :: _ :: _ :: _ :: gr) => N2
        have hin6 : ∀ q ∈ R0, q ∈ nx6 ++ R1 := fun q hq => List.mem_append.mpr (.inr (by rw [hR1]; exact List.mem_append.mpr (.inl hq)))
        k_dflt (refine repr_rows F1 N2 (sub_gr hnx hgr _ (hin6 _ hrR)) hDr (fun q hq => sub_gr hnx hgr _ (hin6 _ (hlR q hq))) hok rfl (Nat.le_of_ble_eq_true (by kernel_rfl)) ?_)
        clear F1 N2
        intro h13 u13 tk13 F1 N2
        k_steps
        refine Stop.of ?_
        rename Fr _ _ _ _ => F1; rename News _ _ _ (_ :: _ :: _ :: _ :: gr) => N2
        k_dflt (refine clear_walk _ B0 F1 X0 (news_sub N2 (sub_gr hnx hgr)) T0 rfl (by k_room) (by k_units) hRI hO1 ?_)
        clear F1 N2 hnx hgr hRI hO1 hokS
        intro h14 tk14 nx8 F1 N1 R8 O8
        have hR8 := R8
        obtain ⟨f, p, v, fs, ps, nf, np, y1, y2, y3, y4, y5, y6, ym, yl, fz, hnx, _⟩ := hR8
        rw [hnx] at N1
        simp only [List.cons_append] at N1
        obtain ⟨gr, hgr, N2⟩ : ∃ gr, gr = fz ++ R1 ∧ News _ _ _ (_ :: _ :: _ :: _ :: gr) := ⟨_, rfl, N1⟩
        clear N1
        k_steps
        as_aux_lemma =>
        refine Stop.of ?_
        rename Fr _ _ _ _ => F1; rename News _ _ _ (_ :: _ :: _ :: _ :: gr) => N2
        k_dflt (refine params_m _ B0 F1 X0 (news_sub N2 (sub_gr hnx hgr)) T0 rfl (by k_room) (by k_units) R8 (st0_ok hm00) hm00 hm1 hl0 hl1 ?_)
        clear F1 N2
        intro r15 vs15 nr15 l150 h15 tk15 hD15 F1 N1
        have hv15 : vs15 = [] := by cases hD15; rfl
        subst hv15
        have nmk : Stops 8 := .mk
        k_steps
        refine Stop.of ?_
        rename Fr _ _ _ _ => F1; rename News _ _ _ (_ :: (r15, _) :: _) => N1; rename Stops 8 => nmk2
        clear nmk2
        k_dflt (refine my_ne_nil (us := []) (ds := []) (l9 := []) N1 (.head _) .nil (fun q hq => absurd hq List.not_mem_nil) (fun d hd => absurd hd List.not_mem_nil) (Nat.le_of_ble_eq_true (by kernel_rfl)) ?_)
        simp only [decide_true, Bool.not_true]
        k_steps
        rename Fr _ _ _ _ => F1; rename News _ _ _ (_ :: (r15, _) :: _) => N1
        rw [hR1] at N1 O8
        refine lend (nx8 ++ R0) F1 N1 (fun q hq => ?_) (off_app (own_right O8) (off_right hoff)) ⟨?_, nx8, rfl, R8, own_left O8⟩
        · refine .tail _ (.tail _ (List.mem_append.mpr (.inr ?_)))
          rw [List.append_assoc] at hq
          exact hq
        · intro y e1 e2 e3
          rw [hm2e]; simp [e1, e2, e3]
    · clear F2 N2 hR2 hRI0 hO0 j0 j1 j2 j3
      rintro m3 nw h9 tk9 ⟨hm3, nx5, rfl, _, _⟩ F1 N0
      have N1 := news_sub N0 (fun q (hq : q ∈ R0) => List.mem_append.mpr (.inr hq))
      clear N0
      rw [map3d hm3, hm2e] at F1
      (try k_unmd); (try k_fold)
      k_steps
      refine Stop.of ?_
      rename Fr _ _ _ _ => F1; rename News _ _ _ R0 => N1
      k_dflt (refine params_walk _ B0 F1 X0 N1 T0 rfl (by k_room) (by k_units) hrR hDr hlR hok ?_)
      clear F1 N1
      intro t20 h20 tk20 F1 N1
      have hag := again_eq hdue
      generalize hwb : rowsB due = wb at hag ⊢
      k_steps
      as_aux_lemma =>
      refine Stop.of ?_
      rename Fr _ _ _ _ => F1; rename News _ _ _ R0 => N1
      k_dflt (refine written_walk _ B0 F1 X0 N1 T0 rfl (by k_room) (by k_units) hrR hDr hlR hok ?_)
      rw [hwb]
      clear F1 N1
      intro t21 h21 tk21 F1 N1
      k_steps
      refine Stop.of ?_
      rename Fr _ _ _ _ => F1; rename News _ _ _ R0 => N1
      k_dflt (refine read1_walk _ B0 F1 X0 N1 T0 rfl (by k_room) (by k_units) ?_)
      rw [hag]
      clear F1 N1
      intro r22 vs22 nr22 l220 h22 tk22 hD22 F1 N1
      have hokr : RowsOk (if due = [[none]] then [] else due) := by
        split
        · exact ⟨by decide, fun row hr => absurd hr List.not_mem_nil⟩
        · exact hok
      generalize hrr : (if due = [[none]] then [] else due) = rr at hD22 hokr
      k_steps
      refine Stop.of ?_
      rename Fr _ _ _ _ => F1; rename News _ _ _ (_ :: _) => N1
      k_dflt (refine repr_rows F1 N1 (.head _) hD22 (fun q hq => .tail _ (List.mem_append.mpr (.inl hq))) hokr rfl (Nat.le_of_ble_eq_true (by kernel_rfl)) ?_)
      clear F1 N1
      intro h23 u23 tk23 F1 N0
      have N1 := news_sub N0 (fun q (hq : q ∈ R0) => .tail _ (List.mem_append.mpr (.inr hq)))
      clear N0
      have imk : Stops 6 := .mk
      k_steps
      as_aux_lemma =>
      refine Stop.of ?_
      rename Fr _ _ _ _ => F1; rename News _ _ _ R0 => N1; rename Stops 6 => imk2
      clear imk2
      refine cut_rows _ F1 (R0 := R0) (rr := rr) ?_ ?_
      · have nmk : Stops 8 := .mk
        k_steps
        refine Stop.of ?_
        rename Fr _ _ _ _ => F1; rename News _ _ _ (_ :: _ :: R0) => N1
        k_dflt (refine due_ne _ N1 hrR hDr hlR (Nat.le_of_ble_eq_true (by kernel_rfl)) ?_)
        by_cases hnn : due = [[none]]
        · rw [decide_eq_true hnn, Bool.not_true]
          rw [if_pos hnn] at hrr
          subst hrr
          k_steps
          rename Fr _ _ _ _ => F1; rename News _ _ _ (_ :: _ :: _ :: R0) => N1
          exact ⟨_, [], 0, [], _, _, _, rfl, rfl, F1, N1, .head _, .nil, fun q hq => absurd hq List.not_mem_nil, fun q hq => .tail _ (.tail _ (.tail _ hq))⟩
        · rw [decide_eq_false hnn, Bool.not_false]
          rw [if_neg hnn] at hrr
          subst hrr
          k_steps
          rename Fr _ _ _ _ => F1; rename News _ _ _ (_ :: _ :: R0) => N1
          exact ⟨_, vs, nr, l9, _, _, _, rfl, rfl, F1, N1, .tail _ (.tail _ hrR), hDr, fun q hq => .tail _ (.tail _ (hlR q hq)), fun q hq => .tail _ (.tail _ hq)⟩
      · clear F1 N1
        intro a24 vs24 n24 l24 nw24 h24 tk24 F1 N1 hr24 hD24 hs24 hR24
        k_steps
        refine Stop.of ?_
        rename Fr _ _ _ _ => F1; rename News _ _ _ nw24 => N1
        k_dflt (refine repr_rows F1 N1 hr24 hD24 hs24 hokr rfl (Nat.le_of_ble_eq_true (by kernel_rfl)) ?_)
        clear F1 N1
        intro h25 u25 tk25 F1 N0
        have N1 := news_sub N0 (fun q (hq : q ∈ nx4 ++ ((r, W.listOf vs.toArray nr) :: l9)) => hR24 q (by
          rw [hR0]
          rcases List.mem_append.mp hq with hq | hq
          · exact .tail _ (List.mem_append.mpr (.inr hq))
          · rcases List.mem_cons.mp hq with rfl | hq
            · exact .head _
            · exact .tail _ (List.mem_append.mpr (.inl hq))))
        clear N0
        k_steps
        as_aux_lemma =>
        refine Stop.of ?_
        rename Fr _ _ _ _ => F1; rename News _ _ _ (nx4 ++ _) => N1
        have hfd := deck_fr hDk hfr
        k_dflt (refine draw_in _ B0 F1 X0 N1 T0 rfl (by k_room) (by k_units) hDk hdc hfd.1 hfd.2 (by decide) (by decide) ?_)
        clear F1 N1 hDk
        intro k5 t5 nx9 h26 tk26 F1 N1 hDk h0k5 h1k5
        k_steps
        refine Stop.of ?_
        rename Fr _ _ _ _ => F1; rename News _ _ _ (nx9 ++ _) => N1
        k_dflt (refine draw_in _ B0 F1 X0 N1 T0 rfl (by k_room) (by k_units) hDk hdc hfd.1 hfd.2 (by decide) (by decide) ?_)
        clear F1 N1 hDk
        intro k6 t6 nx10 h27 tk27 F1 N0 _ h0k6 h1k6
        obtain ⟨RD, hRD, N1⟩ : ∃ RD, RD = (r, W.listOf vs.toArray nr) :: l9 ∧ News _ _ _ RD := ⟨_, rfl, news_sub N0 (fun q hq => List.mem_append.mpr (.inr hq))⟩
        clear N0
        have hrD : (r, W.listOf vs.toArray nr) ∈ RD := by rw [hRD]; exact .head _
        have hlD : ∀ p ∈ l9, p ∈ RD := by rw [hRD]; exact fun p hp => .tail _ hp
        have hlen : due.length < 1000 := by have := hdue.1; omega
        have h1k5' : k5 < 2 ^ 63 := by omega
        have hne : ∀ row ∈ due, row ≠ [] := fun row hr => (hdue.2 row hr).1
        k_steps
        refine Stop.of ?_
        rename Fr _ _ _ _ => F1; rename News _ _ _ _ => N1
        k_dflt (refine value_walk _ (rows := due) (l9 := l9) B0 F1 X0 N1 T0 rfl (by k_room) (by k_units) (by first | exact hrD | exact .tail _ hrD | exact .tail _ (.tail _ hrD)) hDr (by first | exact hlD | exact fun p hp => .tail _ (hlD p hp) | exact fun p hp => .tail _ (.tail _ (hlD p hp))) h0k5 h1k5' hlen ?_)
        rw [at_true]
        clear F1 N1
        intro v30 t30 h30 tk30 hv30 F1 N1
        k_steps
        as_aux_lemma =>
        refine Stop.of ?_
        rename Fr _ _ _ _ => F1; rename News _ _ _ _ => N1
        k_dflt (refine plain_walk _ (rows := due) (l9 := l9) (d := k6) B0 F1 X0 N1 T0 rfl (by k_room) (by k_units) (by first | exact hrD | exact .tail _ hrD | exact .tail _ (.tail _ hrD)) hDr (by first | exact hlD | exact fun p hp => .tail _ (hlD p hp) | exact fun p hp => .tail _ (.tail _ (hlD p hp))) h0k5 h1k5' hlen ?_)
        rw [at_false]
        clear F1 N1
        intro t31 h31 tk31 F1 N1
        generalize hv31 : atOf due k5 k6 false = v31
        k_steps
        refine Stop.of ?_
        rename Fr _ _ _ _ => F1; rename News _ _ _ _ => N1
        k_dflt (refine at_walk _ (rows := due) (l9 := l9) B0 F1 X0 N1 T0 rfl (by k_room) (by k_units) (by first | exact hrD | exact .tail _ hrD | exact .tail _ (.tail _ hrD) | exact .tail _ (.tail _ (.tail _ hrD)) | exact .tail _ (.tail _ (.tail _ (.tail _ hrD)))) hDr (by first | exact hlD | exact fun p hp => .tail _ (hlD p hp) | exact fun p hp => .tail _ (.tail _ (hlD p hp)) | exact fun p hp => .tail _ (.tail _ (.tail _ (hlD p hp))) | exact fun p hp => .tail _ (.tail _ (.tail _ (.tail _ (hlD p hp))))) h0k5 h1k5' hlen hne ?_)
        rw [← hv30]
        clear F1 N1
        intro v32 t32 h32 tk32 hv32 F1 N1
        subst hv32
        k_steps
        refine Stop.of ?_
        rename Fr _ _ _ _ => F1; rename News _ _ _ _ => N1
        k_dflt (refine at_walk _ (rows := due) (l9 := l9) B0 F1 X0 N1 T0 rfl (by k_room) (by k_units) (by first | exact hrD | exact .tail _ hrD | exact .tail _ (.tail _ hrD) | exact .tail _ (.tail _ (.tail _ hrD)) | exact .tail _ (.tail _ (.tail _ (.tail _ hrD)))) hDr (by first | exact hlD | exact fun p hp => .tail _ (hlD p hp) | exact fun p hp => .tail _ (.tail _ (hlD p hp)) | exact fun p hp => .tail _ (.tail _ (.tail _ (hlD p hp))) | exact fun p hp => .tail _ (.tail _ (.tail _ (.tail _ (hlD p hp))))) h0k5 h1k5' hlen hne ?_)
        rw [hv31]
        clear F1 N1
        intro v33 t33 h33 tk33 hv33 F1 N1
        subst hv33
        k_steps
        as_aux_lemma =>
        refine Stop.of ?_
        rename Fr _ _ _ _ => F1; rename News _ _ _ _ => N1
        have hI34 := values_eq due
        k_dflt (refine values_walk _ (rows := due) (l9 := l9) (news := RD) B0 F1 X0 (by first | exact N1 | exact news_sub N1 (fun q hq => .tail _ hq) | exact news_sub N1 (fun q hq => .tail _ (.tail _ hq)) | exact news_sub N1 (fun q hq => .tail _ (.tail _ (.tail _ hq)))) T0 rfl (by k_room) (by k_units) hrD hDr hlD hlen ?_)
        rw [hI34]
        clear F1 N1 hI34
        intro d34 us34 nn34 h34 tk34 hI34 F1 N1 off34
        have hul34 := hI34.length
        rw [List.length_map] at hul34
        obtain ⟨hs34, hhs⟩ : ∃ hs, hs = due.map headOf := ⟨_, rfl⟩
        rw [← hhs] at hI34
        have lcm : Stops 4 := .mk
        k_steps
        refine Stop.of ?_
        rename Fr _ _ _ _ => F1; rename News _ _ _ _ => N1; rename Stops 4 => lcm2
        clear lcm2
        k_dflt (refine LCg.ListComp_U (F₀ := F1) (by rfl) (by decide) (by rfl) (by decide) (by rfl) ?_)
        k_steps
        refine Stop.of ?_
        have hvl := hDr.length
        rw [List.length_map] at hvl
        refine src_ledger1 (vs := vs) (k := nr) (fun i ys => IntsAre ys ((due.take i).map headOf)) rfl F1 N1 (.tail _ (.tail _ hrD)) (by rw [sizeLine_eq]; omega) .nil ?_ ?_
        · clear F1 N1
          rintro i v ys I oI C oC D m₂ h tk E' hi hJ hv hC hx F2 N2 off ne
          have hir : i < (due.map rowD).length := by rw [List.length_map]; omega
          obtain ⟨v', hv', hvD⟩ := hDr.get hir
          rw [hv] at hv'
          obtain rfl := Option.some.inj hv'
          rw [List.getElem_map] at hvD
          obtain ⟨a1, us, n1, rfl, hm1, hu⟩ := row_in hvD
          have hm1' := hlD _ hm1
          have hil : i < due.length := by omega
          have hdi : due[i]? = some due[i] := List.getElem?_eq_getElem hil
          have hne1 := hne due[i] (List.getElem_mem _)
          have N3 := news_more N2 (.tail _ (.tail _ (.tail _ (.tail _ (.tail _ hm1')))))
          cases hrow : due[i] with
          | nil => exact absurd hrow hne1
          | cons x rst =>
            rw [hrow] at hu
            cases hu with
            | cons hu1 hu2 =>
            cases x with
            | none =>
              have := v_none hu1
              subst this
              (try k_unmd); (try k_fold)
              k_steps
              rename Fr _ _ _ _ => F4; rename News _ _ _ (_ :: (I, oI) :: _) => N5
              refine end1 F4 N5 (fun q hq => .tail _ hq) ?_
              rw [List.take_add_one, hdi, hrow, List.map_append]
              exact hJ.append (.cons _ _ .nil)
            | some z =>
              obtain ⟨tz, rfl⟩ := v_some hu1
              (try k_unmd); (try k_fold)
              k_steps
              rename Fr _ _ _ _ => F4; rename News _ _ _ (_ :: (I, oI) :: _) => N5
              refine end1 F4 N5 (fun q hq => .tail _ hq) ?_
              rw [List.take_add_one, hdi, hrow, List.map_append]
              exact hJ.append (.cons _ _ .nil)
        · clear F1 N1
          rintro ys D h' tk' hJ F2 N2 o1
          rw [hvl, List.take_length, ← hhs] at hJ
          k_steps
end
end
end Mine
set_option maxRecDepth 100000 in
set_option maxHeartbeats 8000000 in
theorem PySem.Challenge.cw_np0269_01_holds : PySem.Challenge.rw_np0269_01.Holds := by
  exact Mine.law_all
